import PyProof.Rows.All
import Wide.All
import OpenK.AllK
import Wide.FinOn
import PyProof.CompFree
import PyProof.Cells
import PyProof.ForAny
import PyProof.ForAppend
import PyProof.Rows.Many
import PyProof.Rows.IntRules
import PyProof.DefCall
import PyProof.Rows.Globals
import PyProof.P3In
import PyProof.ListCopy
import PyProof.ForRange
import PyProof.Rows.EqDataRows
import PyProof.Rows.TupSub
import PyProof.Rows.StrTemp
import PyProof.Rows.Nodes
import PyProof.Rows.SeqMore
import PyProof.Rows.RuleB_floordiv
import PyProof.Rows.RuleB_mul
import PyProof.Rows.RuleC_int
import PyProof.Rows.RuleU_int
import PyProof.Rows.RuleB_small
import PyProof.ListIndexNeg
import PyProof.Rows.SeqFit
import PyProof.Raises
import PyProof.SetScanFacts
import PyProof.Rows.SetFrom
import PyProof.Rows.SortShell
import PyProof.CollectIter
import PyProof.IsiPairs
import PyProof.WalkInts
import PyProof.ConsumeWalk
import PyProof.SliceMore
import PyProof.Dict
import PyProof.Rows.TupAssign
import PyProof.Fits
import OpenK.KMake
import OpenK.KCls
import OpenK.KMore
import PyProof.Rows.Catch
import PyProof.AssignAttr
import PyProof.MeetsSeq3
import PyProof.FactsAll.list_2
import KE.KSortAsk
import KE.KSortTup
import Lean
import PySem.Challenge.RW_uf060024_09
set_option Elab.async false
/-! # M1 -/
section
set_option autoImplicit false
namespace Mine
open PySem PySem.Calls PyProof.Rows

theorem none_of {α : Type} {x : Option α} (f : ∀ o, x = some o → False) : x = none := by
  cases x with
  | none => rfl
  | some o => exact (f o rfl).elim
theorem no1 {α : Type} {x : Option α} {o : α} (n : x = none) (e : x = some o) : False := by rw [n] at e; cases e

inductive D where
  | none
  | bool (b : Bool)
  | int (i : Int)
  | str (s : Str)
  | tuple (ds : List D)
  | list (ds : List D)
  | raw (v : Value)
  | inst (C : Addr) (ns : List Str) (ds : List D)

mutual
inductive Rd (X : Addr → Prop) (h : Heap) : Value → D → Prop
  | none : Rd X h .none .none
  | bool (b) : Rd X h (.bool b) (.bool b)
  | int (i t) : Rd X h (.int i t) (.int i)
  | str (x t) : Rd X h (.str x t) (.str x)
  | raw (v) : Rd X h v (.raw v)
  | list {a o vs n ds} : ¬ X a → h.get? a = some o → o.cls = .type "list" → o.data = .seq vs n → RdAll X h vs.toList ds → Rd X h (.ref a) (.list ds)
  | tuple {a o vs n ds} : ¬ X a → h.get? a = some o → o.cls = .type "tuple" → o.data = .seq vs n → RdAll X h vs.toList ds → Rd X h (.ref a) (.tuple ds)
  | inst {a o da vs C ns ds} : ¬ X a → h.get? a = some o → o.cls = .ref C → o.data = .plain → o.dict = some da → ¬ X da → h.Ns da (fun x => (ns.zip vs).lookup x) → ns.length = vs.length → RdAll X h vs ds → Rd X h (.ref a) (.inst C ns ds)
inductive RdAll (X : Addr → Prop) (h : Heap) : List Value → List D → Prop
  | nil : RdAll X h [] []
  | cons {v vs d ds} : Rd X h v d → RdAll X h vs ds → RdAll X h (v :: vs) (d :: ds)
end

theorem Rd.mono {X X' : Addr → Prop} {h h' : Heap} (k : ∀ a o, ¬ X a → h.get? a = some o → ¬ X' a ∧ h'.get? a = some o) {v : Value} {d : D} (r : Rd X h v d) : Rd X' h' v d :=
  Rd.rec (motive_1 := fun v d _ => Rd X' h' v d) (motive_2 := fun vs ds _ => RdAll X' h' vs ds) .none .bool .int .str .raw (fun h1 h2 h3 h4 _ ih => .list (k _ _ h1 h2).1 (k _ _ h1 h2).2 h3 h4 ih) (fun h1 h2 h3 h4 _ ih => .tuple (k _ _ h1 h2).1 (k _ _ h1 h2).2 h3 h4 ih)
    (fun h1 h2 h3 h4 h5 h6 h7 h8 _ ih => .inst (k _ _ h1 h2).1 (k _ _ h1 h2).2 h3 h4 h5 (let ⟨o, _, _, e, _⟩ := h7; (k _ o h6 e).1) (let ⟨o, es, ep, e, r⟩ := h7; ⟨o, es, ep, (k _ o h6 e).2, r⟩) h8 ih) .nil (fun _ _ a b => .cons a b) r
theorem RdAll.mono {X X' : Addr → Prop} {h h' : Heap} (k : ∀ a o, ¬ X a → h.get? a = some o → ¬ X' a ∧ h'.get? a = some o) {vs : List Value} {ds : List D} (r : RdAll X h vs ds) : RdAll X' h' vs ds := by
  induction vs generalizing ds with
  | nil => cases r; exact .nil
  | cons v vs ih => cases r with | cons a r => exact .cons (a.mono k) (ih r)

theorem rd_int {X : Addr → Prop} {h : Heap} {v : Value} {i : Int} (r : Rd X h v (.int i)) : ∃ t, v = .int i t := by cases r; exact ⟨_, rfl⟩
theorem rd_list {X : Addr → Prop} {h : Heap} {v : Value} {ds : List D} (r : Rd X h v (.list ds)) : ∃ a o vs n, v = .ref a ∧ ¬ X a ∧ h.get? a = some o ∧ o.cls = .type "list" ∧ o.data = .seq vs n ∧ RdAll X h vs.toList ds := by
  cases r with | list h1 h2 h3 h4 h5 => exact ⟨_, _, _, _, rfl, h1, h2, h3, h4, h5⟩

theorem rd_tuple {X : Addr → Prop} {h : Heap} {v : Value} {ds : List D} (r : Rd X h v (.tuple ds)) : ∃ a o vs n, v = .ref a ∧ ¬ X a ∧ h.get? a = some o ∧ o.cls = .type "tuple" ∧ o.data = .seq vs n ∧ RdAll X h vs.toList ds := by
  cases r with | tuple h1 h2 h3 h4 h5 => exact ⟨_, _, _, _, rfl, h1, h2, h3, h4, h5⟩
theorem rdAll_cons {X : Addr → Prop} {h : Heap} {vs : List Value} {d : D} {ds : List D} (r : RdAll X h vs (d :: ds)) : ∃ v us, vs = v :: us ∧ Rd X h v d ∧ RdAll X h us ds := by
  cases r with | cons a r => exact ⟨_, _, rfl, a, r⟩
theorem rdAll_nil {X : Addr → Prop} {h : Heap} {vs : List Value} (r : RdAll X h vs []) : vs = [] := by cases r; rfl

def Sub (h h' : Heap) : Prop := ∀ a o, h.get? a = some o → h'.get? a = some o
theorem Sub.refl (h : Heap) : Sub h h := fun _ _ e => e
theorem Sub.trans {h h' h'' : Heap} (x : Sub h h') (y : Sub h' h'') : Sub h h'' := fun a o e => y a o (x a o e)
theorem Rd.keep {X : Addr → Prop} {h h' : Heap} {v : Value} {d : D} (r : Rd X h v d) (k : Sub h h') : Rd X h' v d := r.mono fun a o n e => ⟨n, k a o e⟩
theorem RdAll.keep {X : Addr → Prop} {h h' : Heap} {v : List Value} {d : List D} (r : RdAll X h v d) (k : Sub h h') : RdAll X h' v d := r.mono fun a o n e => ⟨n, k a o e⟩
theorem Rd.weak {X X' : Addr → Prop} {h : Heap} {v : Value} {d : D} (r : Rd X h v d) (k : ∀ a, X' a → X a) : Rd X' h v d := r.mono fun a _ n e => ⟨fun x => n (k a x), e⟩
theorem RdAll.weak {X X' : Addr → Prop} {h : Heap} {v : List Value} {d : List D} (r : RdAll X h v d) (k : ∀ a, X' a → X a) : RdAll X' h v d := r.mono fun a _ n e => ⟨fun x => n (k a x), e⟩

theorem RdAll.length {X : Addr → Prop} {h : Heap} {vs : List Value} {ds : List D} (r : RdAll X h vs ds) : vs.length = ds.length := by
  induction vs generalizing ds with
  | nil => cases r; rfl
  | cons v vs ih => cases r with | cons _ r => exact congrArg Nat.succ (ih r)
theorem RdAll.append {X : Addr → Prop} {h : Heap} {vs ws : List Value} {ds es : List D} (r : RdAll X h vs ds) (k : RdAll X h ws es) : RdAll X h (vs ++ ws) (ds ++ es) := by
  induction vs generalizing ds with
  | nil => cases r; exact k
  | cons v vs ih => cases r with | cons a r => exact .cons a (ih r)
theorem RdAll.get {X : Addr → Prop} {h : Heap} {vs : List Value} {ds : List D} (r : RdAll X h vs ds) {i : Nat} {d : D} (e : ds[i]? = some d) : ∃ v, vs[i]? = some v ∧ Rd X h v d := by
  induction vs generalizing ds i with
  | nil => cases r; cases e
  | cons v vs ih =>
    cases r with
    | cons a r =>
      cases i with
      | zero => cases e; exact ⟨v, rfl, a⟩
      | succ i => exact ih r e
theorem RdAll.getV {X : Addr → Prop} {h : Heap} {vs : List Value} {ds : List D} (r : RdAll X h vs ds) {i : Nat} {v : Value} (e : vs[i]? = some v) : ∃ d, ds[i]? = some d ∧ Rd X h v d := by
  induction vs generalizing ds i with
  | nil => cases e
  | cons u vs ih =>
    cases r with
    | cons a r =>
      cases i with
      | zero => cases e; exact ⟨_, rfl, a⟩
      | succ i => exact ih r e

set_option genInjectivity false in
set_option genSizeOf false in
/-- what stands below every call: the top's globals -/
structure Cx where
  prog : Program
  w : World
  base : Heap
  mg : Str → Option Value
  mb : Str → Option Value
  g : base.Ns mainGlobals mg
  b : base.Ns builtinsNs mb
  nolimit : base.NoLimit
  builtins : ∀ x : Str, x ≠ "__name__" → mb x = bootBuiltins x

structure Room (k : Nat) (A : Around) : Prop where
  handled : A.handled = none
  depth : A.depth + k < recursionLimit
  units : A.units + 8 * k + 200 < cLine

theorem Room.le {k j : Nat} {A : Around} (r : Room k A) (h : j ≤ k) : Room j A := ⟨r.handled, by have := r.depth; omega, by have := r.units; omega⟩
theorem Room.deeper {k : Nat} {A : Around} (r : Room (k + 1) A) (env : Env) : Room k (A.deeper env) := ⟨r.handled, by have := r.depth; show A.depth + 1 + k < _; omega, by have := r.units; show A.units + 3 + 8 * k + 200 < _; omega⟩

def Var (env : Env) (h : Heap) (x : Str) (v : Value) : Prop :=
  (env.kindOf x = some .local ∧ ∃ m, h.Ns env.locals m ∧ m x = some v) ∨ ((env.kindOf x = some .cell ∨ (env.kindOf x = some .free ∧ (x == ("__classdict__" : Str)) = false)) ∧ ∃ c, env.cells.lookup x = some c ∧ h.IsCell c (some v))

theorem Var.keep {env : Env} {h h' : Heap} {x : Str} {v : Value} (r : Var env h x v) (k : Sub h h') : Var env h' x v := by
  rcases r with ⟨a, m, n, e⟩ | ⟨a, c, e, i⟩
  · exact .inl ⟨a, m, n.keeps k, e⟩
  · exact .inr ⟨a, c, e, i.keeps k⟩

abbrev Vars := List (Str × D)
abbrev Mem := List (Addr × List D)

structure EnvOk (env : Env) : Prop where
  kind : env.scope.kind = .function
  globals : env.globals = mainGlobals
  builtins : env.builtins = builtinsNs
  has : ∀ n, env.kindOf n = some .cell ∨ env.kindOf n = some .free → ∃ a, env.cells.lookup n = some a

/-- a plain list object -/
def PL (h : Heap) (a : Addr) (vs : Array Value) : Prop := ∃ o, h.get? a = some o ∧ o.cls = .type "list" ∧ o.dict = none ∧ ∃ n, o.data = .seq vs n
theorem PL.isList {h : Heap} {a : Addr} {vs : Array Value} (x : PL h a vs) : h.IsList a vs := let ⟨o, e, c, _, n, d⟩ := x; ⟨o, e, c, n, d⟩
theorem PL.plain {h : Heap} {a : Addr} {vs : Array Value} (x : PL h a vs) : PlainL h a vs := let ⟨o, e, c, q, n, d⟩ := x; ⟨o, n, e, c, q, d⟩
theorem PL.of {h : Heap} {a : Addr} {vs : Array Value} (x : PlainL h a vs) : PL h a vs := let ⟨o, n, e, c, q, d⟩ := x; ⟨o, e, c, q, n, d⟩
theorem PL.extBut {h h' : Heap} {a b : Addr} {vs : Array Value} (x : PL h a vs) (hs : Heap.ExtBut b h h') (hab : a ≠ b) : PL h' a vs := let ⟨o, e, r⟩ := x; ⟨o, hs a o hab e, r⟩

/-- an own list that may still change -/
def ML (X : Addr → Prop) (h : Heap) (a : Addr) (ds : List D) : Prop := ∃ vs, PL h a vs ∧ RdAll X h vs.toList ds
theorem ML.keep {X : Addr → Prop} {h h' : Heap} {a : Addr} {ds : List D} (r : ML X h a ds) (k : Sub h h') : ML X h' a ds :=
  let ⟨vs, ⟨o, e, q⟩, y⟩ := r; ⟨vs, ⟨o, k a o e, q⟩, y.keep k⟩

/-- what an expression may read -/
structure Rc (c : Cx) (X : Addr → Prop) (env : Env) (ρ : Vars) (μ : Mem) (s : Shared) : Prop where
  ok : EnvOk env
  base : Sub c.base s.heap
  live : ∀ a, X a → ∃ o, s.heap.get? a = some o
  cel : ∀ n a, env.cells.lookup n = some a → X a ∧ c.base.get? a = none ∧ ∃ ov, s.heap.IsCell a ov
  apart : ∀ n n' a, env.cells.lookup n = some a → env.cells.lookup n' = some a → n = n'
  vars : ∀ x d, ρ.lookup x = some d → ∃ v, Var env s.heap x v ∧ Rd X s.heap v d
  mem : ∀ a ds, (a, ds) ∈ μ → X a ∧ ML X s.heap a ds

theorem Rc.keep {c : Cx} {X : Addr → Prop} {env : Env} {ρ : Vars} {μ : Mem} {s s' : Shared} (r : Rc c X env ρ μ s) (k : Sub s.heap s'.heap) : Rc c X env ρ μ s' :=
  ⟨r.ok, r.base.trans k, fun a x => let ⟨o, e⟩ := r.live a x; ⟨o, k a o e⟩, fun n a e => let ⟨x, y, ov, z⟩ := r.cel n a e; ⟨x, y, ov, z.keeps k⟩, r.apart, fun x d e => let ⟨v, a, b⟩ := r.vars x d e; ⟨v, a.keep k, b.keep k⟩, fun a ds e => ⟨(r.mem a ds e).1, (r.mem a ds e).2.keep k⟩⟩

/-- what no step here touches -/
structure Same (s s' : Shared) : Prop where
  os : s'.os = s.os
  gens : s'.gens = s.gens
theorem Same.refl (s : Shared) : Same s s := ⟨rfl, rfl⟩
theorem Same.trans {s s' s'' : Shared} (a : Same s s') (b : Same s' s'') : Same s s'' := ⟨b.os.trans a.os, b.gens.trans a.gens⟩

/-- the old heap is kept -/
structure Kp (s s' : Shared) : Prop where
  sub : Sub s.heap s'.heap
  same : Same s s'
theorem Kp.refl (s : Shared) : Kp s s := ⟨Sub.refl _, Same.refl s⟩
theorem Kp.tok (s : Shared) (t : Nat) : Kp s { s with toks := t } := ⟨Sub.refl _, ⟨rfl, rfl⟩⟩
theorem Kp.heap (s : Shared) (h : Heap) (t : Nat) (k : Sub s.heap h) : Kp s { s with heap := h, toks := t } := ⟨k, ⟨rfl, rfl⟩⟩
theorem Kp.push (s : Shared) (o : Obj) (t : Nat) : Kp s { s with heap := s.heap.push o, toks := t } := Kp.heap s _ t fun _ _ e => Heap.get?_push_of_some _ e
theorem Kp.trans {s s' s'' : Shared} (a : Kp s s') (b : Kp s' s'') : Kp s s'' := ⟨a.sub.trans b.sub, a.same.trans b.same⟩

/-- a pure tree: it gives a value that reads as d; the old heap is kept -/
def Gives (c : Cx) (X : Addr → Prop) (A : Around) (t : Sem Value) (d : D) (s : Shared) : Prop :=
  ∀ E, wpAny (model c.prog c.w) A t (fun v s' => Kp s s' ∧ Rd X s'.heap v d) E s

def Ev (c : Cx) (k : Nat) (env : Env) (ρ : Vars) (μ : Mem) (e : Expr) (d : D) : Prop :=
  ∀ X A s, Room k A → Rc c X env ρ μ s → Gives c X A (eval e env) d s

/-- a test -/
def Tr (c : Cx) (k : Nat) (env : Env) (ρ : Vars) (μ : Mem) (e : Expr) (b : Bool) : Prop :=
  ∀ X A s E, Room k A → Rc c X env ρ μ s → wpAny (model c.prog c.w) A (isTrue e env (eval e env)) (fun v s' => Kp s s' ∧ v = b) E s

section
variable {c : Cx} {k : Nat} {env : Env} {ρ : Vars} {μ : Mem}

theorem ev_name {x : Str} {pos : Pos} {d : D} (e : ρ.lookup x = some d) (hd : (x == ("__debug__" : Str)) = false) : Ev c k env ρ μ (.Name x pos) d := by
  intro X A s hA R E
  obtain ⟨v, hv, hr⟩ := R.vars x d e
  refine wpAny_Name ?_ hd
  rcases hv with ⟨a, m, n, q⟩ | ⟨a | a, c', q, i⟩
  · exact wpAny_loadName_local R.ok.kind a n q ⟨Kp.refl s, hr⟩
  · exact wpAny_loadName_cell R.ok.kind a q i ⟨Kp.refl s, hr⟩
  · exact wpAny_loadName_free R.ok.kind a.1 q i ⟨Kp.refl s, hr⟩ a.2

theorem ev_int {i : Int} {kk : Nat} {pos : Pos} : Ev c k env ρ μ (.Constant (.int i) kk pos) (.int i) := fun _ _ s _ _ _ =>
  wpAny_Constant_int ⟨Kp.tok s _, .int _ _⟩
theorem ev_bool {b : Bool} {kk : Nat} {pos : Pos} : Ev c k env ρ μ (.Constant (.bool b) kk pos) (.bool b) := fun _ _ s _ _ _ =>
  fun _ _ _ => ⟨Kp.refl s, .bool _⟩

theorem gives_bind {X : Addr → Prop} {A : Around} {s : Shared} {t : Sem Value} {d : D} {Q : Value → Shared → Prop} {E : Value → Shared → Prop} (g : Gives c X A t d s)
    (h : ∀ v s', Kp s s' → Rd X s'.heap v d → Q v s') : wpAny (model c.prog c.w) A t Q E s :=
  wpAny_mono (g E) (fun v s' q => h v s' q.1 q.2) fun _ _ e => e
theorem gives_after {X : Addr → Prop} {A : Around} {s s' : Shared} {t : Sem Value} {d : D} {E : Value → Shared → Prop} (g : Gives c X A t d s') (hk : Kp s s') :
    wpAny (model c.prog c.w) A t (fun v s'' => Kp s s'' ∧ Rd X s''.heap v d) E s' :=
  gives_bind g fun _ _ k r => ⟨hk.trans k, r⟩

/-- an operator of two values -/
theorem ev_bin {l r : Expr} {op : Operator} {pos : Pos} {a b d : D} (ha : Ev c k env ρ μ l a) (hb : Ev c k env ρ μ r b)
    (h : ∀ X A s v u, Room k A → Rd X s.heap v a → Rd X s.heap u b → (∀ a, X a → ∃ o, s.heap.get? a = some o) → Gives c X A (binaryOp op v u) d s) : Ev c k env ρ μ (.BinOp l op r pos) d := by
  intro X A s hA R E
  refine wpAny_BinOp (gives_bind (ha X A s hA R) fun v s₁ k₁ r₁ => ?_)
  have R₁ := R.keep k₁.sub
  refine gives_bind (hb X A s₁ hA R₁) fun u s₂ k₂ r₂ => ?_
  exact gives_after (h X A s₂ v u hA (r₁.keep k₂.sub) r₂ (R₁.keep k₂.sub).live) (k₁.trans k₂)

theorem ev_cmp {l r : Expr} {op : CmpOp} {pos : Pos} {a b d : D} (ha : Ev c k env ρ μ l a) (hb : Ev c k env ρ μ r b)
    (h : ∀ X A s v u, Room k A → Rd X s.heap v a → Rd X s.heap u b → Gives c X A (compareOp op v u) d s) (hm : behindInMarks op r = false := by with_unfolding_all rfl) : Ev c k env ρ μ (.Compare l [op] [r] pos) d := by
  intro X A s hA R E
  refine wpAny_Compare1 (gives_bind (ha X A s hA R) fun v s₁ k₁ r₁ => ?_) hm
  have R₁ := R.keep k₁.sub
  refine gives_bind (hb X A s₁ hA R₁) fun u s₂ k₂ r₂ => ?_
  exact gives_after (h X A s₂ v u hA (r₁.keep k₂.sub) r₂) (k₁.trans k₂)

theorem tr_cmp {l r : Expr} {op : CmpOp} {pos : Pos} {a b : D} {d : Bool} (ha : Ev c k env ρ μ l a) (hb : Ev c k env ρ μ r b)
    (h : ∀ X A s v u, Room k A → Rd X s.heap v a → Rd X s.heap u b → Gives c X A (compareOp op v u) (.bool d) s) (hm : behindInMarks op r = false := by with_unfolding_all rfl) : Tr c k env ρ μ (.Compare l [op] [r] pos) d := by
  intro X A s E hA R
  refine wpAny_isTrue_Compare1 (gives_bind (ha X A s hA R) fun v s₁ k₁ r₁ => ?_) hm
  have R₁ := R.keep k₁.sub
  refine gives_bind (hb X A s₁ hA R₁) fun u s₂ k₂ r₂ => ?_
  refine gives_bind (h X A s₂ v u hA (r₁.keep k₂.sub) r₂) fun x s₃ k₃ r₃ => ?_
  cases r₃
  exact wpAny_truthy_bool ⟨(k₁.trans k₂).trans k₃, rfl⟩
end

/-! ## ints -/
section
variable {c : Cx} {k : Nat} {env : Env} {ρ : Vars} {μ : Mem} {l r : Expr} {pos : Pos} {a b : Int}

theorem ev_add (ha : Ev c k env ρ μ l (.int a)) (hb : Ev c k env ρ μ r (.int b)) : Ev c k env ρ μ (.BinOp l .Add r pos) (.int (a + b)) :=
  ev_bin ha hb fun X A s v u _ h1 h2 _ E => by obtain ⟨_, rfl⟩ := rd_int h1; obtain ⟨_, rfl⟩ := rd_int h2; exact PyProof.Rows.add_int ⟨Kp.tok s _, .int _ _⟩
theorem ev_sub (ha : Ev c k env ρ μ l (.int a)) (hb : Ev c k env ρ μ r (.int b)) : Ev c k env ρ μ (.BinOp l .Sub r pos) (.int (a - b)) :=
  ev_bin ha hb fun X A s v u _ h1 h2 _ E => by obtain ⟨_, rfl⟩ := rd_int h1; obtain ⟨_, rfl⟩ := rd_int h2; exact PyProof.Rows.sub_int ⟨Kp.tok s _, .int _ _⟩
theorem ev_mod (ha : Ev c k env ρ μ l (.int a)) (hb : Ev c k env ρ μ r (.int b)) (h0 : b ≠ 0) : Ev c k env ρ μ (.BinOp l .Mod r pos) (.int (a.fmod b)) :=
  ev_bin ha hb fun X A s v u _ h1 h2 _ E => by obtain ⟨_, rfl⟩ := rd_int h1; obtain ⟨_, rfl⟩ := rd_int h2; exact PyProof.Rows.mod_int h0 ⟨Kp.tok s _, .int _ _⟩

theorem cmp_lt {X : Addr → Prop} {A : Around} {s : Shared} {v u : Value} (h1 : Rd X s.heap v (.int a)) (h2 : Rd X s.heap u (.int b)) : Gives c X A (compareOp .Lt v u) (.bool (decide (a < b))) s := fun E => by
  obtain ⟨_, rfl⟩ := rd_int h1; obtain ⟨_, rfl⟩ := rd_int h2; exact PyProof.Rows.lt_int ⟨Kp.refl s, .bool _⟩
theorem cmp_gt {X : Addr → Prop} {A : Around} {s : Shared} {v u : Value} (h1 : Rd X s.heap v (.int a)) (h2 : Rd X s.heap u (.int b)) : Gives c X A (compareOp .Gt v u) (.bool (decide (b < a))) s := fun E => by
  obtain ⟨_, rfl⟩ := rd_int h1; obtain ⟨_, rfl⟩ := rd_int h2; exact PyProof.Rows.gt_int ⟨Kp.refl s, .bool _⟩
theorem cmp_eq {X : Addr → Prop} {A : Around} {s : Shared} {v u : Value} (h1 : Rd X s.heap v (.int a)) (h2 : Rd X s.heap u (.int b)) : Gives c X A (compareOp .Eq v u) (.bool (a == b)) s := fun E => by
  obtain ⟨_, rfl⟩ := rd_int h1; obtain ⟨_, rfl⟩ := rd_int h2; exact PyProof.Rows.eq_int ⟨Kp.refl s, .bool _⟩
theorem cmp_ne {X : Addr → Prop} {A : Around} {s : Shared} {v u : Value} (h1 : Rd X s.heap v (.int a)) (h2 : Rd X s.heap u (.int b)) : Gives c X A (compareOp .NotEq v u) (.bool (a != b)) s := fun E => by
  obtain ⟨_, rfl⟩ := rd_int h1; obtain ⟨_, rfl⟩ := rd_int h2; exact PyProof.Rows.ne_int ⟨Kp.refl s, .bool _⟩
end
end Mine
end

/-! # M2 -/
section
set_option autoImplicit false
namespace Mine
open PySem PySem.Calls PyProof.Rows

def Mut (env : Env) (μ : Mem) (a : Addr) : Prop := a = env.locals ∨ (∃ n, env.cells.lookup n = some a) ∨ ∃ ds, (a, ds) ∈ μ
def XOf (X₀ : Addr → Prop) (env : Env) (μ : Mem) (a : Addr) : Prop := X₀ a ∨ Mut env μ a

structure St (c : Cx) (X₀ : Addr → Prop) (env : Env) (ρ : Vars) (μ : Mem) (s : Shared) : Prop where
  ok : EnvOk env
  base : Sub c.base s.heap
  own : ∀ a, Mut env μ a → c.base.get? a = none
  live : ∀ a, X₀ a → ∃ o, s.heap.get? a = some o
  ns : ∃ m, s.heap.Ns env.locals m
  cel : ∀ n a, env.cells.lookup n = some a → ∃ ov, s.heap.IsCell a ov
  apart : ∀ n n' a, env.cells.lookup n = some a → env.cells.lookup n' = some a → n = n'
  vars : ∀ x d, ρ.lookup x = some d → ∃ v, Var env s.heap x v ∧ Rd (XOf X₀ env μ) s.heap v d
  mem : ∀ a ds, (a, ds) ∈ μ → ML (XOf X₀ env μ) s.heap a ds
  nodup : (μ.map (·.1)).Nodup
  memX : ∀ a ds, (a, ds) ∈ μ → ¬ X₀ a

structure Go (env : Env) (μ : Mem) (s : Shared) (μ' : Mem) (s' : Shared) : Prop where
  same : Same s s'
  keep : ∀ a o, ¬ Mut env μ a → s.heap.get? a = some o → s'.heap.get? a = some o
  alive : ∀ a o, s.heap.get? a = some o → ∃ o', s'.heap.get? a = some o'
  grow : ∀ a ds, (a, ds) ∈ μ' → (∃ ds', (a, ds') ∈ μ) ∨ s.heap.get? a = none

theorem Go.refl (env : Env) (μ : Mem) (s : Shared) : Go env μ s μ s := ⟨Same.refl s, fun _ _ _ e => e, fun _ o e => ⟨o, e⟩, fun _ ds h => .inl ⟨ds, h⟩⟩
theorem Go.of_kp {env : Env} {μ : Mem} {s s' : Shared} (k : Kp s s') : Go env μ s μ s' := by
  exact ⟨k.same, fun a o _ q => k.sub a o q, fun a o q => ⟨o, k.sub a o q⟩, fun _ ds h => .inl ⟨ds, h⟩⟩
theorem Go.trans {env : Env} {μ μ₁ μ₂ : Mem} {s s₁ s₂ : Shared} (x : Go env μ s μ₁ s₁) (y : Go env μ₁ s₁ μ₂ s₂) : Go env μ s μ₂ s₂ := by
  refine ⟨x.same.trans y.same, fun a o n e => ?_, fun a o e => ?_, fun a ds m => ?_⟩
  · refine y.keep a o (fun m => n ?_) (x.keep a o n e)
    rcases m with m | m | ⟨ds, m⟩
    · exact .inl m
    · exact .inr (.inl m)
    · rcases x.grow a ds m with q | q
      · exact .inr (.inr q)
      · first | exact (no1 (e) q).elim | exact (no1 q (e)).elim | (rw [e] at q; cases q)
  · obtain ⟨o', e'⟩ := x.alive a o e
    exact y.alive a o' e'
  · rcases y.grow a ds m with ⟨ds', q⟩ | q
    · exact x.grow a ds' q
    · right
      refine none_of fun o h => ?_
      obtain ⟨o', e'⟩ := x.alive a o h; first | exact (no1 (q) e').elim | exact (no1 e' (q)).elim | (rw [q] at e'; cases e')

theorem St.rc {c : Cx} {X₀ : Addr → Prop} {env : Env} {ρ : Vars} {μ : Mem} {s : Shared} (S : St c X₀ env ρ μ s) : Rc c (XOf X₀ env μ) env ρ μ s := by
  refine ⟨S.ok, S.base, fun a h => ?_, fun n a h => ⟨.inr (.inr (.inl ⟨n, h⟩)), S.own a (.inr (.inl ⟨n, h⟩)), S.cel n a h⟩, S.apart, S.vars, fun a ds h => ⟨.inr (.inr (.inr ⟨ds, h⟩)), S.mem a ds h⟩⟩
  rcases h with h | h | ⟨n, h⟩ | ⟨ds, h⟩
  · exact S.live a h
  · obtain ⟨m, o, _, _, e, _⟩ := S.ns; exact ⟨o, h ▸ e⟩
  · obtain ⟨ov, o, e, _⟩ := S.cel n a h; exact ⟨o, e⟩
  · obtain ⟨vs, ⟨o, e, _⟩, _⟩ := S.mem a ds h; exact ⟨o, e⟩

/-- a step that keeps the old heap keeps the state -/
theorem St.kp {c : Cx} {X₀ : Addr → Prop} {env : Env} {ρ : Vars} {μ : Mem} {s s' : Shared} (S : St c X₀ env ρ μ s) (k : Kp s s') : St c X₀ env ρ μ s' := by
  have k' := k.sub
  refine ⟨S.ok, S.base.trans k', S.own, fun a h => ?_, ?_, fun n a h => ?_, S.apart, fun x d e => ?_, fun a ds m => (S.mem a ds m).keep k', S.nodup, S.memX⟩
  · exact (S.live a h).imp fun o e => k' a o e
  · exact (S.ns).imp fun m h => h.keeps k'
  · exact (S.cel n a h).imp fun ov h => h.keeps k'
  · obtain ⟨v, a, b⟩ := S.vars x d e; exact ⟨v, a.keep k', b.keep k'⟩

theorem St.weak {c : Cx} {X₀ : Addr → Prop} {env : Env} {ρ ρ' : Vars} {μ : Mem} {s : Shared} (S : St c X₀ env ρ μ s) (h : ∀ x d, ρ'.lookup x = some d → ρ.lookup x = some d) : St c X₀ env ρ' μ s :=
  { S with vars := fun x d e => S.vars x d (h x d e) }

def stor (env : Env) (x : Str) : Bool := match env.kindOf x with
  | some .local => true
  | some .cell => true
  | _ => false

theorem IsCell_ne_Ns {h : Heap} {a b : Addr} {v : Option Value} {m : Str → Option Value} (x : h.IsCell a v) (y : h.Ns b m) : a ≠ b := by
  rintro rfl
  obtain ⟨o, e, d⟩ := x
  obtain ⟨o', es, ep, e', d', _⟩ := y
  rw [e] at e'; cases e'; first | exact (no1 (d) d').elim | exact (no1 d' (d)).elim | (rw [d] at d'; cases d')
theorem IsList_ne_Ns {h : Heap} {a b : Addr} {v : Array Value} {m : Str → Option Value} (x : h.IsList a v) (y : h.Ns b m) : a ≠ b := by
  rintro rfl
  obtain ⟨o, e, _, n, d⟩ := x
  obtain ⟨o', es, ep, e', d', _⟩ := y
  rw [e] at e'; cases e'; first | exact (no1 (d) d').elim | exact (no1 d' (d)).elim | (rw [d] at d'; cases d')
theorem IsList_ne_Cell {h : Heap} {a b : Addr} {v : Array Value} {m : Option Value} (x : h.IsList a v) (y : h.IsCell b m) : a ≠ b := by
  rintro rfl
  obtain ⟨o, e, _, n, d⟩ := x
  obtain ⟨o', e', d'⟩ := y
  rw [e] at e'; cases e'; first | exact (no1 (d) d').elim | exact (no1 d' (d)).elim | (rw [d] at d'; cases d')

/-- a change at one own address keeps what reads off it -/
theorem Rd.but {X : Addr → Prop} {h h' : Heap} {a : Addr} {v : Value} {d : D} (r : Rd X h v d) (hX : X a) (hs : Heap.SameBut a h h') : Rd X h' v d :=
  r.mono fun b o n e => ⟨n, hs.extBut b o (fun q => n (q ▸ hX)) e⟩
theorem RdAll.but {X : Addr → Prop} {h h' : Heap} {a : Addr} {v : List Value} {d : List D} (r : RdAll X h v d) (hX : X a) (hs : Heap.SameBut a h h') : RdAll X h' v d :=
  r.mono fun b o n e => ⟨n, hs.extBut b o (fun q => n (q ▸ hX)) e⟩

theorem Go.but {env : Env} {μ : Mem} {s : Shared} {h' : Heap} {tk : Nat} {a : Addr} (hm : Mut env μ a) (hs : Heap.SameBut a s.heap h') (ha : ∃ o, h'.get? a = some o) : Go env μ s μ { s with heap := h', toks := tk } := by
  refine ⟨⟨rfl, rfl⟩, fun b o n e => hs.extBut b o (fun q => n (q ▸ hm)) e, fun b o e => ?_, fun _ ds h => .inl ⟨ds, h⟩⟩
  by_cases q : b = a
  · exact q ▸ ha
  · exact ⟨o, hs.extBut b o q e⟩

section
variable {c : Cx} {X₀ : Addr → Prop} {env : Env} {ρ : Vars} {μ : Mem} {s : Shared} {A : Around} {E : Value → Shared → Prop}

def addrOf (env : Env) (x : Str) : Addr := if env.kindOf x = some .local then env.locals else (env.cells.lookup x).getD 0

theorem st_store' {x : Str} {v : Value} {d : D} {Q : Unit → Shared → Prop} (S : St c X₀ env ρ μ s) (hx : stor env x = true) (r : Rd (XOf X₀ env μ) s.heap v d)
    (h : ∀ s', St c X₀ env ((x, d) :: ρ) μ s' → Go env μ s μ s' → Heap.SameBut (addrOf env x) s.heap s'.heap → Q () s') : wpAny (model c.prog c.w) A (storeName env x v) Q E s := by
  obtain ⟨m, hn⟩ := S.ns
  have hp : (env.scope.kind == .class || (env.scope.kind == .module && env.locals != env.globals)) = false := by rw [S.ok.kind]; rfl
  have look : ∀ (y : Str) (e : D), ((x, d) :: ρ).lookup y = some e → (y = x ∧ e = d) ∨ (y ≠ x ∧ ρ.lookup y = some e) := fun y e q => by
    rw [List.lookup_cons] at q
    by_cases hy : y = x
    · subst hy; simp at q; exact .inl ⟨rfl, q.symm⟩
    · have : (y == x) = false := by simpa using hy
      rw [this] at q; exact .inr ⟨hy, q⟩
  unfold stor at hx
  split at hx
  · rename_i hl
    refine wpAny_storeName_local hl hn (fun h' hn' hs' => ?_) hp
    have hX : XOf X₀ env μ env.locals := .inr (.inl rfl)
    refine h _ ⟨S.ok, fun a o e => hs'.extBut a o (fun q => ?_) (S.base a o e), S.own, fun a ha => ?_, ⟨_, hn'⟩, fun n a ha => ?_, S.apart, fun y e q => ?_, fun a ds hm => ?_, S.nodup, S.memX⟩ (Go.but (.inl rfl) hs' ?_) (by unfold addrOf; rw [if_pos hl]; exact hs')
    · have := S.own _ (.inl rfl); rw [q, this] at e; cases e
    · by_cases q : a = env.locals
      · obtain ⟨o, _, _, e, _⟩ := hn'; exact ⟨o, q ▸ e⟩
      · exact (S.live a ha).imp fun o e => hs'.extBut a o q e
    · exact (S.cel n a ha).imp fun ov hc => hc.sameBut hs' (IsCell_ne_Ns hc hn)
    · rcases look y e q with ⟨rfl, rfl⟩ | ⟨hy, q⟩
      · exact ⟨v, .inl ⟨hl, _, hn', by simp⟩, r.but hX hs'⟩
      · obtain ⟨u, hu, hr⟩ := S.vars y e q
        refine ⟨u, ?_, hr.but hX hs'⟩
        rcases hu with ⟨a, m', n', e'⟩ | ⟨a, c', e', i⟩
        · refine .inl ⟨a, _, hn', ?_⟩
          rw [if_neg hy]
          have : m' = m := by
            obtain ⟨o1, es1, ep1, g1, d1, _, f1⟩ := n'
            obtain ⟨o2, es2, ep2, g2, d2, _, f2⟩ := hn
            rw [g1] at g2; cases g2; first | exact (no1 (d1) d2).elim | exact (no1 d2 (d1)).elim | (rw [d1] at d2; cases d2)
            funext z; rw [← f1, ← f2]
          rw [← this]; exact e'
        · exact .inr ⟨a, c', e', i.sameBut hs' (IsCell_ne_Ns i hn)⟩
    · obtain ⟨vs, hl', hr⟩ := S.mem a ds hm
      exact ⟨vs, hl'.extBut hs'.extBut (IsList_ne_Ns hl'.isList hn), hr.but hX hs'⟩
    · obtain ⟨o, _, _, e, _⟩ := hn'; exact ⟨o, e⟩
  · rename_i hl
    obtain ⟨a, ha⟩ := S.ok.has x (.inl hl)
    obtain ⟨ov, hc⟩ := S.cel x a ha
    refine wpAny_storeName_cell S.ok.kind hl ha hc fun h' hc' hs' => ?_
    have hX : XOf X₀ env μ a := .inr (.inr (.inl ⟨x, ha⟩))
    have hg : Go env μ s μ { s with heap := h' } := Go.but (tk := s.toks) (.inr (.inl ⟨x, ha⟩)) hs' (let ⟨o, e, _⟩ := hc'; ⟨o, e⟩)
    refine h _ ⟨S.ok, fun b o e => hs'.extBut b o (fun q => ?_) (S.base b o e), S.own, fun b hb => ?_, ?_, fun n b hb => ?_, S.apart, fun y e q => ?_, fun b ds hm => ?_, S.nodup, S.memX⟩ hg (by unfold addrOf; rw [if_neg (by rw [hl]; decide), ha]; exact hs')
    · have := S.own _ (.inr (.inl ⟨x, ha⟩)); rw [q, this] at e; cases e
    · by_cases q : b = a
      · obtain ⟨o, e, _⟩ := hc'; exact ⟨o, q ▸ e⟩
      · exact (S.live b hb).imp fun o e => hs'.extBut b o q e
    · exact ⟨m, hn.sameBut hs' (IsCell_ne_Ns hc hn).symm⟩
    · by_cases q : b = a
      · exact ⟨_, q ▸ hc'⟩
      · exact (S.cel n b hb).imp fun ov' hb' => hb'.sameBut hs' q
    · rcases look y e q with ⟨rfl, rfl⟩ | ⟨hy, q⟩
      · exact ⟨v, .inr ⟨.inl hl, a, ha, hc'⟩, r.but hX hs'⟩
      · obtain ⟨u, hu, hr⟩ := S.vars y e q
        refine ⟨u, ?_, hr.but hX hs'⟩
        rcases hu with ⟨b, m', n', e'⟩ | ⟨b, c', e', i⟩
        · exact .inl ⟨b, m', n'.sameBut hs' (IsCell_ne_Ns hc n').symm, e'⟩
        · refine .inr ⟨b, c', e', i.sameBut hs' fun q' => hy (S.apart y x c' e' (q' ▸ ha))⟩
    · obtain ⟨vs, hl', hr⟩ := S.mem b ds hm
      exact ⟨vs, hl'.extBut hs'.extBut (IsList_ne_Cell hl'.isList hc), hr.but hX hs'⟩
  · cases hx
theorem st_store {x : Str} {v : Value} {d : D} {Q : Unit → Shared → Prop} (S : St c X₀ env ρ μ s) (hx : stor env x = true) (r : Rd (XOf X₀ env μ) s.heap v d)
    (h : ∀ s', St c X₀ env ((x, d) :: ρ) μ s' → Go env μ s μ s' → Q () s') : wpAny (model c.prog c.w) A (storeName env x v) Q E s :=
  st_store' S hx r fun s' a b _ => h s' a b
end

inductive Out where
  | next | brk | cont
  | ret (d : D)

def OutIs (X : Addr → Prop) (h : Heap) : Flow → Out → Prop
  | .next, .next => True
  | .brk, .brk => True
  | .cont, .cont => True
  | .ret v, .ret d => Rd X h v d
  | _, _ => False

def Post (c : Cx) (X₀ : Addr → Prop) (env : Env) (μ : Mem) (s : Shared) (Q : Out → Vars → Mem → Prop) (fl : Flow) (s' : Shared) : Prop :=
  ∃ o ρ' μ', OutIs (XOf X₀ env μ') s'.heap fl o ∧ St c X₀ env ρ' μ' s' ∧ Go env μ s μ' s' ∧ Q o ρ' μ'

def Ex (c : Cx) (k : Nat) (env : Env) (ρ : Vars) (μ : Mem) (ss : List Stmt) (Q : Out → Vars → Mem → Prop) : Prop :=
  ∀ X₀ A s E, Room k A → St c X₀ env ρ μ s → wpAny (model c.prog c.w) A (execs ss env) (Post c X₀ env μ s Q) E s
def Ex1 (c : Cx) (k : Nat) (env : Env) (ρ : Vars) (μ : Mem) (st : Stmt) (Q : Out → Vars → Mem → Prop) : Prop :=
  ∀ X₀ A s E, Room k A → St c X₀ env ρ μ s → wpAny (model c.prog c.w) A (exec st env) (Post c X₀ env μ s Q) E s

section
variable {c : Cx} {k : Nat} {env : Env} {ρ ρ' : Vars} {μ : Mem} {Q : Out → Vars → Mem → Prop}

theorem Post.after {X₀ : Addr → Prop} {μ μ₁ : Mem} {s s₁ : Shared} {Q : Out → Vars → Mem → Prop} {fl : Flow} {s' : Shared} (g : Go env μ s μ₁ s₁) (p : Post c X₀ env μ₁ s₁ Q fl s') : Post c X₀ env μ s Q fl s' :=
  let ⟨o, ρ', μ', a, b, g', q⟩ := p; ⟨o, ρ', μ', a, b, g.trans g', q⟩

theorem ex_nil (h : Q .next ρ μ) : Ex c k env ρ μ [] Q := fun _ _ s _ _ S => wpAny_execs_nil ⟨.next, ρ, μ, trivial, S, Go.refl env μ s, h⟩

theorem ex_seq {st : Stmt} {rest : List Stmt} (h : Ex1 c k env ρ μ st (fun o ρ' μ' => match o with | .next => Ex c k env ρ' μ' rest Q | o => Q o ρ' μ')) : Ex c k env ρ μ (st :: rest) Q := by
  intro X₀ A s E hA S
  refine wpAny_execs_cons (wpAny_mono (h X₀ A s E hA S) (fun fl s' p => ?_) fun _ _ e => e)
  obtain ⟨o, ρ', μ', a, b, g, q⟩ := p
  cases fl <;> cases o <;> first | exact a.elim | skip
  · exact wpAny_mono (q X₀ A s' E hA b) (fun fl' s'' p' => Post.after g p') fun _ _ e => e
  · exact ⟨.brk, ρ', μ', trivial, b, g, q⟩
  · exact ⟨.cont, ρ', μ', trivial, b, g, q⟩
  · exact ⟨.ret _, ρ', μ', a, b, g, q⟩

theorem ex_mono {ss : List Stmt} {Q' : Out → Vars → Mem → Prop} (h : Ex c k env ρ μ ss Q) (hq : ∀ o ρ' μ', Q o ρ' μ' → Q' o ρ' μ') : Ex c k env ρ μ ss Q' := fun X₀ A s E hA S =>
  wpAny_mono (h X₀ A s E hA S) (fun _ _ ⟨o, ρ', μ', a, b, g, q⟩ => ⟨o, ρ', μ', a, b, g, hq _ _ _ q⟩) fun _ _ e => e
theorem ex_weak {ss : List Stmt} (h : Ex c k env ρ' μ ss Q) (hw : ∀ x d, ρ'.lookup x = some d → ρ.lookup x = some d) : Ex c k env ρ μ ss Q := fun X₀ A s E hA S => h X₀ A s E hA (S.weak hw)

theorem ex_assign {x : Str} {px pos : Pos} {e : Expr} {d : D} (he : Ev c k env ρ μ e d) (h : Q .next ((x, d) :: ρ) μ) (hx : stor env x = true := by rfl)
    (hs : swapsWith e (some (.Name x px)) pos.line env = pure false := by rfl) : Ex1 c k env ρ μ (.Assign [.Name x px] e pos) Q := by
  intro X₀ A s E hA S
  refine wpAny_Assign_Name (gives_bind (he _ A s hA S.rc) fun v s₁ k₁ r₁ => ?_) hs
  exact st_store (S.kp k₁) hx r₁ fun s' S' g => ⟨.next, _, μ, trivial, S', (Go.of_kp k₁).trans g, h⟩

theorem ex_return {e : Expr} {pos : Pos} {d : D} (he : Ev c k env ρ μ e d) (h : Q (.ret d) ρ μ) : Ex1 c k env ρ μ (.Return (some e) pos) Q := by
  intro X₀ A s E hA S
  exact wpAny_Return_some (gives_bind (he _ A s hA S.rc) fun v s₁ k₁ r₁ => ⟨.ret d, ρ, μ, r₁, S.kp k₁, Go.of_kp k₁, h⟩)

theorem ex_if {test : Expr} {body orelse : List Stmt} {pos : Pos} {b : Bool} (ht : Tr c k env ρ μ test b) (h1 : b = true → Ex c k env ρ μ body Q) (h2 : b = false → Ex c k env ρ μ orelse Q) : Ex1 c k env ρ μ (.If test body orelse pos) Q := by
  intro X₀ A s E hA S
  refine wpAny_If (wpAny_mono (ht _ A s E hA S.rc) (fun v s₁ q => ?_) fun _ _ e => e)
  obtain ⟨k₁, rfl⟩ := q
  cases v with
  | true =>
    simp only [if_true]
    exact wpAny_mono (h1 rfl X₀ A s₁ E hA (S.kp k₁)) (fun _ _ p => Post.after (Go.of_kp k₁) p) fun _ _ e => e
  | false =>
    simp only [Bool.false_eq_true, if_false]
    exact wpAny_mono (h2 rfl X₀ A s₁ E hA (S.kp k₁)) (fun _ _ p => Post.after (Go.of_kp k₁) p) fun _ _ e => e

structure SrcOf (c : Cx) (X : Addr → Prop) (A : Around) (ds : List D) (s s₂ : Shared) (I : Addr) (fp wr : List Addr) (P : Nat → Value → Prop) (W : Nat → Heap → Prop) : Prop where
  walks : Walks c.prog c.w A I fp wr ds.length P W
  start : W 0 s₂.heap
  kp : Kp s s₂
  new : ∀ b ∈ wr, s.heap.get? b = none
  foot : ∀ b ∈ fp, (b ∈ wr ∨ ¬ X b) ∧ ∃ o, s₂.heap.get? b = some o
  wrLive : ∀ i h, W i h → ∀ b ∈ wr, ∃ o, h.get? b = some o
  item : ∀ i d v, ds[i]? = some d → P i v → Rd (fun a => X a ∨ a ∈ wr) s₂.heap v d
def SrcAt (c : Cx) (X : Addr → Prop) (A : Around) (ds : List D) (s : Shared) (it : Value) (s₂ : Shared) : Prop :=
  ∃ I fp wr P W, it = .ref I ∧ SrcOf c X A ds s s₂ I fp wr P W

/-- what a for or a comprehension goes over -/
def Src (c : Cx) (k : Nat) (env : Env) (ρ : Vars) (μ : Mem) (iter : Expr) (ds : List D) : Prop :=
  ∀ X A s E, Room k A → Rc c X env ρ μ s → wpAny (model c.prog c.w) A (eval iter env) (fun x s₁ => wpAny (model c.prog c.w) A (pyIter x) (fun it s₂ =>
    SrcAt c X A ds s it s₂) E s₁) E s

/-- the turns of a for, in order -/
def TurnsG (run : Vars → Mem → (Out → Vars → Mem → Prop) → Prop) (x : Str) (Q : Out → Vars → Mem → Prop) : List D → Vars → Mem → Prop
  | [], ρ, μ => Q .next ρ μ
  | d :: ds, ρ, μ => run ((x, d) :: ρ) μ (fun o ρ' μ' => match o with
      | .next | .cont => TurnsG run x Q ds ρ' μ'
      | .brk => Q .next ρ' μ'
      | .ret d => Q (.ret d) ρ' μ')
abbrev Turns (c : Cx) (k : Nat) (env : Env) (x : Str) (body : List Stmt) (Q : Out → Vars → Mem → Prop) : List D → Vars → Mem → Prop := TurnsG (fun ρ μ Q => Ex c k env ρ μ body Q) x Q
end
end Mine
end

/-! # M3 -/
section
set_option autoImplicit false
namespace Mine
open PySem PySem.Calls PyProof.Rows

/-- as Go, but for what the loop's own iterator writes -/
structure GoW (wr : List Addr) (env : Env) (μ : Mem) (s : Shared) (μ' : Mem) (s' : Shared) : Prop where
  same : Same s s'
  keep : ∀ a o, ¬ Mut env μ a → a ∉ wr → s.heap.get? a = some o → s'.heap.get? a = some o
  alive : ∀ a o, s.heap.get? a = some o → ∃ o', s'.heap.get? a = some o'
  grow : ∀ a ds, (a, ds) ∈ μ' → (∃ ds', (a, ds') ∈ μ) ∨ s.heap.get? a = none

theorem GoW.refl (wr : List Addr) (env : Env) (μ : Mem) (s : Shared) : GoW wr env μ s μ s := ⟨Same.refl s, fun _ _ _ _ e => e, fun _ o e => ⟨o, e⟩, fun _ ds h => .inl ⟨ds, h⟩⟩
theorem GoW.trans {wr : List Addr} {env : Env} {μ μ₁ μ₂ : Mem} {s s₁ s₂ : Shared} (x : GoW wr env μ s μ₁ s₁) (y : Go env μ₁ s₁ μ₂ s₂) : GoW wr env μ s μ₂ s₂ := by
  refine ⟨x.same.trans y.same, fun a o n w e => ?_, fun a o e => ?_, fun a ds m => ?_⟩
  · refine y.keep a o (fun m => n ?_) (x.keep a o n w e)
    rcases m with m | m | ⟨ds, m⟩
    · exact .inl m
    · exact .inr (.inl m)
    · rcases x.grow a ds m with q | q
      · exact .inr (.inr q)
      · first | exact (no1 (e) q).elim | exact (no1 q (e)).elim | (rw [e] at q; cases q)
  · obtain ⟨o', e'⟩ := x.alive a o e
    exact y.alive a o' e'
  · rcases y.grow a ds m with ⟨ds', q⟩ | q
    · exact x.grow a ds' q
    · right
      refine none_of fun o h => ?_
      obtain ⟨o', e'⟩ := x.alive a o h; first | exact (no1 (q) e').elim | exact (no1 e' (q)).elim | (rw [q] at e'; cases e')
/-- the iterator's own step -/
theorem GoW.step {wr : List Addr} {env : Env} {μ μ₁ : Mem} {s s₁ : Shared} {h' : Heap} {tk : Nat} (x : GoW wr env μ s μ₁ s₁) (k : ∀ b o, b ∉ wr → s₁.heap.get? b = some o → h'.get? b = some o)
    (l : ∀ b ∈ wr, ∃ o, h'.get? b = some o) : GoW wr env μ s μ₁ { s₁ with heap := h', toks := tk } := by
  refine ⟨x.same.trans ⟨rfl, rfl⟩, fun a o n w e => k a o w (x.keep a o n w e), fun a o e => ?_, x.grow⟩
  · obtain ⟨o', e'⟩ := x.alive a o e
    by_cases w : a ∈ wr
    · exact l a w
    · exact ⟨o', k a o' w e'⟩
/-- seen from ahead of the iterator -/
theorem GoW.go {wr : List Addr} {env : Env} {μ μ₁ : Mem} {s s₁ s₂ : Shared} (k : Kp s s₁) (n : ∀ b ∈ wr, s.heap.get? b = none) (x : GoW wr env μ s₁ μ₁ s₂) : Go env μ s μ₁ s₂ := by
  have k' := k.sub
  refine ⟨k.same.trans x.same, fun a o m e => x.keep a o m (fun w => ?_) (k' a o e), fun a o e => x.alive a o (k' a o e), fun a ds m => ?_⟩
  · first | exact (no1 (n a w) e).elim | exact (no1 e (n a w)).elim | (rw [n a w] at e; cases e)
  · refine (x.grow a ds m).imp id fun q => ?_
    refine none_of fun o h => ?_
    first | exact (no1 (k' a o h) q).elim | exact (no1 q (k' a o h)).elim | (rw [k' a o h] at q; cases q)

/-- other addresses for the caller's -/
theorem St.reX {c : Cx} {X₀ X₁ : Addr → Prop} {env : Env} {ρ : Vars} {μ : Mem} {s : Shared} (S : St c X₁ env ρ μ s) (h : ∀ a, X₀ a → X₁ a) : St c X₀ env ρ μ s := by
  have hx : ∀ a, XOf X₀ env μ a → XOf X₁ env μ a := fun a q => q.imp (h a) id
  refine { S with live := fun a q => S.live a (h a q), vars := fun x d e => ?_, mem := fun a ds m => ?_, memX := fun a ds m q => S.memX a ds m (h a q) }
  · obtain ⟨v, a, b⟩ := S.vars x d e; exact ⟨v, a, b.weak hx⟩
  · obtain ⟨vs, a, b⟩ := S.mem a ds m; exact ⟨vs, a, b.weak hx⟩
/-- what is new is no one's -/
theorem St.addX {c : Cx} {X₀ : Addr → Prop} {env : Env} {ρ : Vars} {μ : Mem} {s s' : Shared} {wr : List Addr} (S : St c X₀ env ρ μ s) (k : Kp s s') (n : ∀ b ∈ wr, s.heap.get? b = none) (l : ∀ b ∈ wr, ∃ o, s'.heap.get? b = some o) :
    St c (fun a => X₀ a ∨ a ∈ wr) env ρ μ s' := by
  have S' := S.kp k
  have k' := k.sub
  have hx : ∀ a o, ¬ XOf X₀ env μ a → s.heap.get? a = some o → ¬ XOf (fun a => X₀ a ∨ a ∈ wr) env μ a ∧ s'.heap.get? a = some o := fun a o q e => by
    refine ⟨?_, k' a o e⟩
    rintro ((y | y) | y)
    · exact q (.inl y)
    · first | exact (no1 (n a y) e).elim | exact (no1 e (n a y)).elim | (rw [n a y] at e; cases e)
    · exact q (.inr y)
  refine { S' with live := fun a q => ?_, vars := fun x d e => ?_, mem := fun a ds m => ?_, memX := fun a ds m q => ?_ }
  · rcases q with q | q
    · exact S'.live a q
    · exact l a q
  · obtain ⟨v, a, b⟩ := S.vars x d e; exact ⟨v, a.keep k', b.mono hx⟩
  · obtain ⟨vs, ⟨o, e, y⟩, b⟩ := S.mem a ds m; exact ⟨vs, ⟨o, k' a o e, y⟩, b.mono hx⟩
  · rcases q with q | q
    · exact S.memX a ds m q
    · obtain ⟨o, e⟩ := S.rc.live a (.inr (.inr (.inr ⟨ds, m⟩))); first | exact (no1 (n a q) e).elim | exact (no1 e (n a q)).elim | (rw [n a q] at e; cases e)
/-- a change within the caller's addresses -/
theorem St.inX {c : Cx} {X₀ : Addr → Prop} {env : Env} {ρ : Vars} {μ : Mem} {s s' : Shared} {wr : List Addr} (S : St c X₀ env ρ μ s) (k : ∀ b o, b ∉ wr → s.heap.get? b = some o → s'.heap.get? b = some o) (hw : ∀ b ∈ wr, X₀ b)
    (l : ∀ b ∈ wr, ∃ o, s'.heap.get? b = some o) (hm : ∀ b ∈ wr, ¬ Mut env μ b) (hb : ∀ b ∈ wr, c.base.get? b = none) : St c X₀ env ρ μ s' := by
  have hx : ∀ a o, ¬ XOf X₀ env μ a → s.heap.get? a = some o → ¬ XOf X₀ env μ a ∧ s'.heap.get? a = some o := fun a o q e => ⟨q, k a o (fun w => q (.inl (hw a w))) e⟩
  have hM : ∀ a o, Mut env μ a → s.heap.get? a = some o → s'.heap.get? a = some o := fun a o m e => k a o (fun w => hm a w m) e
  refine { S with base := fun a o e => k a o (fun w => ?_) (S.base a o e), live := fun a q => ?_, ns := ?_, cel := fun n a h => ?_, vars := fun x d e => ?_, mem := fun a ds m => ?_ }
  · first | exact (no1 (hb a w) e).elim | exact (no1 e (hb a w)).elim | (rw [hb a w] at e; cases e)
  · by_cases w : a ∈ wr
    · exact l a w
    · exact (S.live a q).imp fun o e => k a o w e
  · obtain ⟨m, o, es, ep, e, r⟩ := S.ns
    exact ⟨m, o, es, ep, hM _ _ (.inl rfl) e, r⟩
  · obtain ⟨ov, o, e, r⟩ := S.cel n a h
    exact ⟨ov, o, hM _ _ (.inr (.inl ⟨n, h⟩)) e, r⟩
  · obtain ⟨v, a, b⟩ := S.vars x d e
    refine ⟨v, ?_, b.mono hx⟩
    rcases a with ⟨a, m, ⟨o, es, ep, e', r⟩, q⟩ | ⟨a, c', q, o, e', r⟩
    · exact .inl ⟨a, m, ⟨o, es, ep, hM _ _ (.inl rfl) e', r⟩, q⟩
    · exact .inr ⟨a, c', q, o, hM _ _ (.inr (.inl ⟨x, q⟩)) e', r⟩
  · obtain ⟨vs, ⟨o, e, y⟩, b⟩ := S.mem a ds m
    exact ⟨vs, ⟨o, hM _ _ (.inr (.inr ⟨ds, m⟩)) e, y⟩, b.mono hx⟩

theorem St.live' {c : Cx} {X₀ : Addr → Prop} {env : Env} {ρ : Vars} {μ : Mem} {s : Shared} (S : St c X₀ env ρ μ s) {a : Addr} (h : Mut env μ a) : ∃ o, s.heap.get? a = some o := S.rc.live a (.inr h)

/-- what the loop's iterator has written is let go -/
theorem St.outX {c : Cx} {X₀ : Addr → Prop} {env : Env} {ρ : Vars} {μ : Mem} {s s' : Shared} {wr : List Addr} (S : St c (fun a => X₀ a ∨ a ∈ wr) env ρ μ s) (k : ∀ b o, b ∉ wr → s.heap.get? b = some o → s'.heap.get? b = some o) (hX : ∀ b ∈ wr, ¬ X₀ b)
    (hm : ∀ b ∈ wr, ¬ Mut env μ b) (hb : ∀ b ∈ wr, c.base.get? b = none) : St c X₀ env ρ μ s' := by
  have hx : ∀ a o, ¬ XOf (fun a => X₀ a ∨ a ∈ wr) env μ a → s.heap.get? a = some o → ¬ XOf X₀ env μ a ∧ s'.heap.get? a = some o := fun a o q e => ⟨fun y => q (y.imp .inl id), k a o (fun w => q (.inl (.inr w))) e⟩
  have hM : ∀ a o, Mut env μ a → s.heap.get? a = some o → s'.heap.get? a = some o := fun a o m e => k a o (fun w => hm a w m) e
  refine { S with base := fun a o e => k a o (fun w => no1 (hb a w) e) (S.base a o e), live := fun a q => (S.live a (.inl q)).imp fun o e => k a o (fun w => hX a w q) e, ns := ?_, cel := fun n a h => ?_, vars := fun x d e => ?_, mem := fun a ds m => ?_, memX := fun a ds m q => S.memX a ds m (.inl q) }
  · obtain ⟨m, o, es, ep, e, r⟩ := S.ns
    exact ⟨m, o, es, ep, hM _ _ (.inl rfl) e, r⟩
  · obtain ⟨ov, o, e, r⟩ := S.cel n a h
    exact ⟨ov, o, hM _ _ (.inr (.inl ⟨n, h⟩)) e, r⟩
  · obtain ⟨v, a, b⟩ := S.vars x d e
    refine ⟨v, ?_, b.mono hx⟩
    rcases a with ⟨a, m, ⟨o, es, ep, e', r⟩, q⟩ | ⟨a, c', q, o, e', r⟩
    · exact .inl ⟨a, m, ⟨o, es, ep, hM _ _ (.inl rfl) e', r⟩, q⟩
    · exact .inr ⟨a, c', q, o, hM _ _ (.inr (.inl ⟨x, q⟩)) e', r⟩
  · obtain ⟨vs, ⟨o, e, y⟩, b⟩ := S.mem a ds m
    exact ⟨vs, ⟨o, hM _ _ (.inr (.inr ⟨ds, m⟩)) e, y⟩, b.mono hx⟩

/-- a read ahead of the loop's turns -/
theorem GoW.rd {X₀ : Addr → Prop} {wr : List Addr} {env : Env} {μ μ' : Mem} {s s' : Shared} {v : Value} {d : D} (g : GoW wr env μ s μ' s') (r : Rd (fun a => XOf X₀ env μ a ∨ a ∈ wr) s.heap v d) : Rd (XOf (fun a => X₀ a ∨ a ∈ wr) env μ') s'.heap v d :=
  r.mono fun a o n e => by
    have nM : ¬ Mut env μ a := fun m => n (.inl (.inr m))
    have nw : a ∉ wr := fun w => n (.inr w)
    refine ⟨?_, g.keep a o nM nw e⟩
    rintro ((y | y) | (y | y | ⟨ds, y⟩))
    · exact n (.inl (.inl y))
    · exact nw y
    · exact nM (.inl y)
    · exact nM (.inr (.inl y))
    · exact (g.grow a ds y).elim (fun q => nM (.inr (.inr q))) fun q => no1 q e

section
variable {c : Cx} {k : Nat} {env : Env} {ρ ρ' : Vars} {μ : Mem} {Q : Out → Vars → Mem → Prop}

theorem Go.done {s s' : Shared} {μ' : Mem} {wr : List Addr} {h' : Heap} {tk : Nat} (g : Go env μ s μ' s') (n : ∀ b ∈ wr, s.heap.get? b = none) (hk : ∀ b o, b ∉ wr → s'.heap.get? b = some o → h'.get? b = some o) : Go env μ s μ' { s' with heap := h', toks := tk } :=
  ⟨g.same.trans ⟨rfl, rfl⟩, fun a o m e => hk a o (fun w => no1 (n a w) e) (g.keep a o m e), fun a o e => (g.alive a o e).imp fun o' e' => hk a o' (fun w => no1 (n a w) e) e', g.grow⟩
section
variable {X₀ : Addr → Prop} {A : Around} {ds : List D} {s s₂ : Shared} {I : Addr} {fp wr : List Addr} {P : Nat → Value → Prop} {W : Nat → Heap → Prop}
theorem SrcOf.foot_mut (O : SrcOf c (XOf X₀ env μ) A ds s s₂ I fp wr P W) (S : St c X₀ env ρ μ s) : ∀ μ' s', GoW wr env μ s₂ μ' s' → ∀ b ∈ fp, ¬ Mut env μ' b := by
  intro μ' s' g b hb m
  obtain ⟨f1, o, f2⟩ := O.foot b hb
  have notM : ¬ Mut env μ b := fun m' => f1.elim (fun w => let ⟨o, e⟩ := S.live' m'; no1 (O.new b w) e) fun w => w (.inr m')
  rcases m with m | m | ⟨ds, m⟩
  · exact notM (.inl m)
  · exact notM (.inr (.inl m))
  · exact (g.grow b ds m).elim (fun q => notM (.inr (.inr q))) fun q => no1 q f2
theorem SrcOf.new_base {X : Addr → Prop} (O : SrcOf c X A ds s s₂ I fp wr P W) (hb : Sub c.base s.heap) : ∀ b ∈ wr, c.base.get? b = none := fun b h => none_of fun o e => no1 (O.new b h) (hb b o e)
theorem SrcOf.new_X {X : Addr → Prop} (O : SrcOf c X A ds s s₂ I fp wr P W) (hl : ∀ a, X₀ a → ∃ o, s.heap.get? a = some o) : ∀ b ∈ wr, ¬ X₀ b := fun b h x => let ⟨o, e⟩ := hl b x; no1 (O.new b h) e
end

/-- where a for stands ahead of turn i -/
structure ForAt (c : Cx) (X₀ : Addr → Prop) (env : Env) (μ : Mem) (s₂ : Shared) (wr : List Addr) (W : Nat → Heap → Prop) (T : List D → Vars → Mem → Prop) (ds : List D) (i : Nat) (ρ' : Vars) (μ' : Mem) (s' : Shared) : Prop where
  le : i ≤ ds.length
  w : W i s'.heap
  st : St c (fun a => X₀ a ∨ a ∈ wr) env ρ' μ' s'
  go : GoW wr env μ s₂ μ' s'
  turns : T (ds.drop i) ρ' μ'

section
variable {run : Vars → Mem → (Out → Vars → Mem → Prop) → Prop} {x : Str} {px : Pos} {body : List Stmt} {ds : List D} {X₀ : Addr → Prop} {A : Around} {s s₂ : Shared} {I : Addr} {fp wr : List Addr} {P : Nat → Value → Prop} {W : Nat → Heap → Prop} {R : Result → Shared → Prop}

theorem for_item {i : Nat} {μ' : Mem} {s' : Shared} {v : Value} {h' : Heap} {tk : Nat} {Qf : Flow → Shared → Prop} {Eb : Value → Shared → Prop} (O : SrcOf c (XOf X₀ env μ) A ds s s₂ I fp wr P W) (hwM : ∀ μ' s', GoW wr env μ s₂ μ' s' → ∀ b ∈ fp, ¬ Mut env μ' b) (hbase : ∀ b ∈ wr, c.base.get? b = none) (hx : stor env x = true)
    (hrun : ∀ ρ' μ' Q X₁ s₄, run ρ' μ' Q → St c X₁ env ρ' μ' s₄ → GoW wr env μ s₂ μ' s₄ → wpAny (model c.prog c.w) A (execs body env) (Post c X₁ env μ' s₄ Q) Eb s₄)
    (F : ForAt c X₀ env μ s₂ wr W (TurnsG run x Q) ds i ρ' μ' s') (hlt : i < ds.length) (hP : P i v) (hW' : W (i + 1) h') (hk : ∀ b o, b ∉ wr → s'.heap.get? b = some o → h'.get? b = some o)
    (hq : ∀ fl s₅ o ρ₅ μ₅, OutIs (XOf (fun a => X₀ a ∨ a ∈ wr) env μ₅) s₅.heap fl o → W (i + 1) s₅.heap → St c (fun a => X₀ a ∨ a ∈ wr) env ρ₅ μ₅ s₅ → GoW wr env μ s₂ μ₅ s₅ → (match o with
      | .next | .cont => TurnsG run x Q (ds.drop (i + 1)) ρ₅ μ₅
      | .brk => Q .next ρ₅ μ₅
      | .ret d => Q (.ret d) ρ₅ μ₅) → Qf fl s₅) :
    wpAny (model c.prog c.w) A (assign (.Name x px) env v) (fun _ s₄ => wpAny (model c.prog c.w) A (execs body env) Qf Eb s₄) Eb { s' with heap := h', toks := tk } := by
  have hsub := O.walks.sub
  have hwl := O.wrLive _ _ hW'
  have S₃ : St c (fun a => X₀ a ∨ a ∈ wr) env ρ' μ' { s' with heap := h', toks := tk } := F.st.inX (s' := { s' with heap := h', toks := tk }) hk (fun b hb => .inr hb) hwl (fun b hb => hwM μ' s' F.go b (hsub b hb)) hbase
  have g₃ : GoW wr env μ s₂ μ' { s' with heap := h', toks := tk } := F.go.step hk hwl
  refine wpAny_assign_Name (st_store S₃ hx (g₃.rd (O.item i _ v (List.getElem?_eq_getElem hlt) hP)) fun s₄ S₄ g₄ => ?_)
  have g₅ := g₃.trans g₄
  have hT := F.turns
  rw [List.drop_eq_getElem_cons hlt] at hT
  refine wpAny_mono (hrun _ _ _ _ s₄ hT S₄ g₅) (fun fl s₅ p => ?_) fun _ _ e => e
  obtain ⟨o, ρ₅, μ₅, a, S₅, g₆, q⟩ := p
  exact hq fl s₅ o ρ₅ μ₅ a (O.walks.frame _ _ _ (O.walks.frame _ _ _ hW' fun b hb o e => g₄.keep b o (hwM _ _ g₃ b hb) e) fun b hb o e => g₆.keep b o (hwM _ _ g₅ b hb) e) S₅ (g₅.trans g₆) q

theorem for_loop (O : SrcOf c (XOf X₀ env μ) A ds s s₂ I fp wr P W) (S₂ : St c (fun a => X₀ a ∨ a ∈ wr) env ρ μ s₂) (hwM : ∀ μ' s', GoW wr env μ s₂ μ' s' → ∀ b ∈ fp, ¬ Mut env μ' b) (hbase : ∀ b ∈ wr, c.base.get? b = none) (hwX : ∀ b ∈ wr, ¬ X₀ b) (hx : stor env x = true)
    (hrun : ∀ ρ' μ' Q X₁ s₄, run ρ' μ' Q → St c X₁ env ρ' μ' s₄ → GoW wr env μ s₂ μ' s₄ → wpAny (model c.prog c.w) A (execs body env) (Post c X₁ env μ' s₄ Q) (notedBy (model c.prog c.w) A env fun e s' => R (.error e) s') s₄)
    (h : TurnsG run x Q ds ρ μ) (hR : ∀ fl s' o ρ' μ', OutIs (XOf X₀ env μ') s'.heap fl o → St c X₀ env ρ' μ' s' → Go env μ s μ' s' → Q o ρ' μ' → R (.ok fl) s') : codeAny (model c.prog c.w) A (.forLoop (.Name x px) (.ref I) body [] env) R s₂ := by
  refine codeAny_forLoop (fun n s' => ∃ i ρ' μ', n = ds.length + 1 - i ∧ ForAt c X₀ env μ s₂ wr W (TurnsG run x Q) ds i ρ' μ' s') ?_ (ds.length + 1) ⟨0, ρ, μ, rfl, Nat.zero_le _, O.start, S₂, GoW.refl wr env μ s₂, by simpa using h⟩
  rintro n s' ⟨i, ρ', μ', rfl, F⟩
  by_cases hlt : i < ds.length
  · refine O.walks.item i s' _ _ hlt F.w fun v h' tk hP hW' hk => for_item O hwM hbase hx hrun F hlt hP hW' hk ?_
    intro fl s₅ o ρ₅ μ₅ a w₅ S₅ g₅ q
    have S₆ : St c X₀ env ρ₅ μ₅ s₅ := S₅.reX fun a h => .inl h
    cases fl <;> cases o <;> first | exact a.elim | skip
    · exact ⟨_, Nat.sub_lt_sub_left (Nat.lt_succ_of_lt hlt) (Nat.lt_succ_self i), i + 1, ρ₅, μ₅, rfl, hlt, w₅, S₅, g₅, q⟩
    · exact hR _ _ .next ρ₅ μ₅ trivial S₆ (g₅.go O.kp O.new) q
    · exact ⟨_, Nat.sub_lt_sub_left (Nat.lt_succ_of_lt hlt) (Nat.lt_succ_self i), i + 1, ρ₅, μ₅, rfl, hlt, w₅, S₅, g₅, q⟩
    · exact hR _ _ (.ret _) ρ₅ μ₅ (Rd.weak a fun a h => h.imp .inl id) S₆ (g₅.go O.kp O.new) q
  · have hin : i = ds.length := Nat.le_antisymm F.le (Nat.not_lt.mp hlt)
    refine O.walks.done s' _ _ (hin ▸ F.w) fun h' tk hk => wpAny_execs_nil ?_
    have hT := F.turns
    rw [hin, List.drop_length] at hT
    exact hR _ _ .next ρ' μ' trivial (F.st.outX hk hwX (fun b hb => hwM μ' s' F.go b (O.walks.sub b hb)) hbase) ((F.go.go O.kp O.new).done O.new hk) hT
end

theorem ex_for {x : Str} {px pos : Pos} {iter : Expr} {body : List Stmt} {ds : List D} (hi : Src c k env ρ μ iter ds) (h : Turns c k env x body Q ds ρ μ) (hx : stor env x = true := by rfl)
    (hs : ∀ x, foldedSetIterable iter env x = pure x := by intro _; rfl) : Ex1 c k env ρ μ (.For (.Name x px) iter body [] pos) Q := by
  intro X₀ A s E hA S
  refine wpAny_For (wpAny_mono (hi _ A s E hA S.rc) (fun v s₁ h₁ => wpAny_mono h₁ (fun it s₂ h₂ => ?_) fun _ _ e => e) fun _ _ e => e) hs
  obtain ⟨I, fp, wr, P, W, rfl, O⟩ := h₂
  exact for_loop O (S.addX O.kp O.new (O.wrLive 0 _ O.start)) (O.foot_mut S) (O.new_base S.base) (O.new_X S.live) hx (fun ρ' μ' Q X₁ s₄ hT S₄ _ => hT X₁ A s₄ _ hA S₄) h fun fl s' o ρ' μ' a S' g q => ⟨o, ρ', μ', a, S', g, q⟩

/-- over a list that is told -/
theorem src_list {e : Expr} {ds : List D} (he : Ev c k env ρ μ e (.list ds)) : Src c k env ρ μ e ds := by
  intro X A s E hA R
  refine gives_bind (he X A s hA R) fun v s₁ k₁ r₁ => ?_
  cases r₁ with
  | list hX ho hc hd hr =>
    rename_i a o vs n
    refine wpAny_pyIter_list ⟨o, ho, hc, n, hd⟩ ?_
    have hne : a ≠ s₁.heap.objs.size := Nat.ne_of_lt (Heap.lt_size ho)
    have hl : vs.size = ds.length := by have := hr.length; simpa using this
    have hnew : s₁.heap.get? s₁.heap.objs.size = none := by
      refine none_of fun o h => ?_
      exact absurd (Heap.lt_size h) (Nat.lt_irrefl _)
    have hW := Walks.list (prog := c.prog) (w := c.w) hA.handled s₁.heap.objs.size a hne vs
    rw [hl] at hW
    refine ⟨_, _, _, _, _, rfl, hW, ⟨⟨_, Heap.get?_push_size _ rfl, rfl, rfl⟩, o, Heap.get?_push_of_some _ ho, hc, n, hd⟩, k₁.trans (Kp.push s₁ _ _), fun b hb => ?_, fun b hb => ?_, fun i h st b hb => ?_, fun i d v hi hv => ?_⟩
    · simp at hb; subst hb
      refine none_of fun o h => ?_
      first | exact (no1 (k₁.sub _ _ h) hnew).elim | exact (no1 hnew (k₁.sub _ _ h)).elim | (rw [k₁.sub _ _ h] at hnew; cases hnew)
    · simp at hb
      rcases hb with rfl | rfl
      · exact ⟨.inl (by simp), _, Heap.get?_push_size _ rfl⟩
      · exact ⟨.inr hX, _, Heap.get?_push_of_some _ ho⟩
    · simp at hb; subst hb
      obtain ⟨⟨o, e, _⟩, _⟩ := st; exact ⟨o, e⟩
    · obtain ⟨u, hu, hr'⟩ := hr.get hi
      have : u = v := by
        have e1 : vs[i]? = some u := by simpa using hu
        rw [hv] at e1; exact (Option.some.inj e1).symm
      subst this
      refine hr'.mono fun b o' nb eb => ⟨?_, Heap.get?_push_of_some _ eb⟩
      rintro (y | y)
      · exact nb y
      · simp at y; subst y; first | exact (no1 (hnew) eb).elim | exact (no1 eb (hnew)).elim | (rw [hnew] at eb; cases eb)
end
end Mine
end

/-! # M4 -/
section
set_option autoImplicit false
namespace Mine
open PySem PySem.Calls PyProof.Rows

theorem cf_lookup : ∀ (names : List (Str × NameKind)) (h : Heap) (acc : List (Str × Addr)) (n : Str) (a : Addr), (cellsFrom h.objs.size names acc).lookup n = some a → acc.lookup n = some a ∨ (h.objs.size ≤ a ∧ (pushCells h names).IsCell a none)
  | [], _, _, _, _, e => .inl e
  | (name, kind) :: r, h, acc, n, a, e => by
    unfold cellsFrom at e
    unfold pushCells
    split
    · rename_i hk
      rw [if_pos hk] at e
      have hs : (h.push { cls := .type "cell", data := .cell none }).objs.size = h.objs.size + 1 := Heap.size_push ..
      rw [← hs] at e
      rcases cf_lookup r _ _ n a e with q | q
      · rw [List.lookup_cons] at q
        split at q
        · cases q
          exact .inr ⟨Nat.le_refl _, Heap.IsCell.keeps ⟨_, Heap.get?_push_size _ rfl, rfl⟩ (pushCells_keeps r _)⟩
        · exact .inl q
      · exact .inr ⟨by rw [hs] at q; omega, q.2⟩
    · rename_i hk
      rw [if_neg hk] at e
      exact cf_lookup r h acc n a e
theorem cf_apart : ∀ (names : List (Str × NameKind)) (k : Nat) (acc : List (Str × Addr)), (∀ n n' a, acc.lookup n = some a → acc.lookup n' = some a → n = n') → (∀ n a, acc.lookup n = some a → a < k) →
    ∀ n n' a, (cellsFrom k names acc).lookup n = some a → (cellsFrom k names acc).lookup n' = some a → n = n'
  | [], _, _, h, _ => h
  | (name, kind) :: r, k, acc, h, hl => by
    unfold cellsFrom
    split
    · refine cf_apart r (k + 1) ((name, k) :: acc) (fun n n' a e e' => ?_) fun n a e => ?_
      · rw [List.lookup_cons] at e e'
        cases h1 : n == name <;> cases h2 : n' == name <;> simp only [h1, h2] at e e'
        · exact h n n' a e e'
        · cases e'; exact absurd (hl _ _ e) (Nat.lt_irrefl _)
        · cases e; exact absurd (hl _ _ e') (Nat.lt_irrefl _)
        · exact (beq_iff_eq.mp h1).trans (beq_iff_eq.mp h2).symm
      · rw [List.lookup_cons] at e
        split at e
        · cases e; exact Nat.lt_succ_self _
        · exact Nat.lt_succ_of_lt (hl n a e)
    · exact cf_apart r k acc h hl
theorem cf_has : ∀ (names : List (Str × NameKind)) (k : Nat) (acc : List (Str × Addr)) (n : Str), (n, NameKind.cell) ∈ names ∨ (∃ a, acc.lookup n = some a) → ∃ a, (cellsFrom k names acc).lookup n = some a
  | [], _, _, _, h => by rcases h with h | h; cases h; exact h
  | (name, kind) :: r, k, acc, n, h => by
    unfold cellsFrom
    have hc : ∀ k, (∃ a, acc.lookup n = some a) → ∃ a, ((name, k) :: acc).lookup n = some a := fun k ⟨a, e⟩ => by
      rw [List.lookup_cons]; split
      · exact ⟨_, rfl⟩
      · exact ⟨a, e⟩
    split
    · rename_i hk
      refine cf_has r (k + 1) _ n ?_
      rcases h with h | h
      · rcases List.mem_cons.mp h with q | q
        · cases q; exact .inr ⟨k, by simp⟩
        · exact .inl q
      · exact .inr (hc k h)
    · rename_i hk
      refine cf_has r k _ n ?_
      rcases h with h | h
      · rcases List.mem_cons.mp h with q | q
        · cases q; simp at hk
        · exact .inl q
      · exact .inr h
theorem mem_lookup : ∀ {names : List (Str × NameKind)} {n : Str} {k : NameKind}, names.lookup n = some k → (n, k) ∈ names
  | (m, q) :: r, n, k, h => by
    rw [List.lookup_cons] at h
    split at h
    · rename_i hb; simp at hb; cases h; subst hb; exact List.mem_cons_self
    · exact List.mem_cons_of_mem _ (mem_lookup h)

/-- every name that is captured stands in a cell -/
def freeOk (scope : Scope) (env : Env) : Bool := scope.names.all fun p => p.2 != .free || (env.kindOf p.1 == some .cell || env.kindOf p.1 == some .free)

/-- a comprehension's own block -/
def cenvOf (scope : Scope) (env : Env) (C : Addr) (cl : List (Str × Addr)) : Env :=
  { scope := relabel scope env, locals := C, globals := env.globals, cells := cl, qual := env.qual, func := none, code := env.code, frame := env.frame, builtins := env.builtins }

/-- the names that it captures -/
def capt (scope : Scope) (ρ : Vars) : Vars := ρ.filter fun p => scope.names.lookup p.1 == some .free && !(p.1 == ("__classdict__" : Str))

theorem lookup_capt {scope : Scope} {x : Str} {d : D} : ∀ {ρ : Vars}, (capt scope ρ).lookup x = some d → ρ.lookup x = some d ∧ scope.names.lookup x = some .free ∧ (x == ("__classdict__" : Str)) = false
  | [], h => by simp [capt] at h
  | (y, e) :: r, h => by
    have ih := @lookup_capt scope x d r
    unfold capt at h ih
    rw [List.filter_cons] at h
    by_cases hy : x = y
    · subst hy
      split at h
      · rename_i hp
        simp only [List.lookup_cons, beq_self_eq_true] at h
        cases h
        simp at hp
        exact ⟨by simp, hp.1, by simpa using hp.2⟩
      · rename_i hp
        obtain ⟨_, b, c'⟩ := ih h
        exact absurd (by rw [b, c']; rfl) hp
    · have hy' : (x == y) = false := by simpa using hy
      split at h
      · rw [List.lookup_cons, hy'] at h
        obtain ⟨a, b⟩ := ih h
        exact ⟨by rw [List.lookup_cons, hy']; exact a, b⟩
      · obtain ⟨a, b⟩ := ih h
        exact ⟨by rw [List.lookup_cons, hy']; exact a, b⟩

theorem relabel_free {env : Env} {x : Str} : ∀ {names : List (Str × NameKind)}, names.lookup x = some .free →
    (names.map fun (n, k) => if (k == NameKind.free && env.scope.kind == .function && env.kindOf n == some .cell) then (n, NameKind.cell) else (n, k)).lookup x = some .cell ∨
    (names.map fun (n, k) => if (k == NameKind.free && env.scope.kind == .function && env.kindOf n == some .cell) then (n, NameKind.cell) else (n, k)).lookup x = some .free
  | [], h => by simp at h
  | (n, k) :: r, h => by
    have ih := @relabel_free env x r
    rw [List.map_cons]
    cases hx : x == n with
    | true =>
      simp only [List.lookup_cons, hx] at h
      cases h
      by_cases hc : (NameKind.free == NameKind.free && env.scope.kind == .function && env.kindOf n == some .cell) = true
      · left; simp only [hc, if_true]; rw [List.lookup_cons, hx]
      · right; simp only [hc, Bool.false_eq_true, if_false]; rw [List.lookup_cons, hx]
    | false =>
      simp only [List.lookup_cons, hx] at h
      have h' := ih h
      by_cases hc : (k == NameKind.free && env.scope.kind == .function && env.kindOf n == some .cell) = true
      · simp only [hc, if_true, List.lookup_cons, hx]; exact h'
      · simp only [hc, Bool.false_eq_true, if_false, List.lookup_cons, hx]; exact h'
theorem relabel_mem {env : Env} {names : List (Str × NameKind)} {x : Str} {k : NameKind}
    (h : (x, k) ∈ names.map fun (n, k) => if (k == NameKind.free && env.scope.kind == .function && env.kindOf n == some .cell) then (n, NameKind.cell) else (n, k)) : (x, k) ∈ names ∨ (x, NameKind.free) ∈ names := by
  obtain ⟨⟨n, q⟩, hm, e⟩ := List.mem_map.mp h
  dsimp only at e
  split at e
  · rename_i hc
    cases e
    simp at hc
    obtain ⟨⟨rfl, _⟩, _⟩ := hc
    exact .inr hm
  · cases e; exact .inl hm

section
variable {M : Model} {A : Around} {E : Value → Shared → Prop} {s : Shared}
theorem newBlock {scope : Scope} {env : Env} {cl : List (Str × Addr)} {Q : Env → Shared → Prop}
    (h : Q { scope := scope, locals := s.heap.objs.size, globals := env.globals, cells := cellsFrom (s.heap.objs.size + 1) scope.names cl, qual := env.qual, func := none, code := env.code, frame := env.frame, builtins := env.builtins }
      { s with heap := pushCells (s.heap.push { cls := .type "dict", data := .dict #[] }) scope.names }) :
    wpAny M A (newFunctionEnv scope env.globals cl [] env.qual none .none (some env)) Q E s := by
  simp only [newFunctionEnv, Option.isSome_some, if_true]
  refine wpAny_bind (wpAny_alloc ?_)
  refine wpAny_bind (wpAny_layCells _ (fun name kind cells => by cases hkc : kind == NameKind.cell <;> simp [hkc]) _ _ _ _ ?_)
  rw [show ({ s with heap := s.heap.push { cls := .type "dict", data := .dict #[] } } : Shared).heap.objs.size = s.heap.objs.size + 1 from Heap.size_push ..]
  refine wpAny_bind ?_
  rw [List.forIn_nil]
  exact wpAny_pure (wpAny_pure h)
end
end Mine
end

/-! # M5 -/
section
set_option autoImplicit false
namespace Mine
open PySem PySem.Calls PyProof.Rows

/-- what was kept apart for a while is let go -/
theorem St.dropX {c : Cx} {X₀ : Addr → Prop} {env : Env} {ρ : Vars} {μ : Mem} {s s' : Shared} {wr : List Addr} (S : St c (fun a => X₀ a ∨ a ∈ wr) env ρ μ s) (k : ∀ b o, b ∉ wr → s.heap.get? b = some o → s'.heap.get? b = some o)
    (hw : ∀ b ∈ wr, ¬ X₀ b) (hm : ∀ b ∈ wr, ¬ Mut env μ b) (hb : ∀ b ∈ wr, c.base.get? b = none) : St c X₀ env ρ μ s' := by
  have S₀ : St c X₀ env ρ μ s := S.reX fun a h => .inl h
  have hx : ∀ a o, ¬ XOf (fun a => X₀ a ∨ a ∈ wr) env μ a → s.heap.get? a = some o → ¬ XOf X₀ env μ a ∧ s'.heap.get? a = some o := fun a o q e => ⟨fun y => q (y.imp .inl id), k a o (fun w => q (.inl (.inr w))) e⟩
  have hM : ∀ a o, Mut env μ a → s.heap.get? a = some o → s'.heap.get? a = some o := fun a o m e => k a o (fun w => hm a w m) e
  refine { S₀ with base := fun a o e => k a o (fun w => ?_) (S₀.base a o e), live := fun a q => ?_, ns := ?_, cel := fun n a h => ?_, vars := fun x d e => ?_, mem := fun a ds m => ?_ }
  · first | exact (no1 (hb a w) e).elim | exact (no1 e (hb a w)).elim | (rw [hb a w] at e; cases e)
  · exact (S.live a (.inl q)).imp fun o' e' => k a o' (fun w => hw a w q) e'
  · obtain ⟨m, o, es, ep, e, r⟩ := S₀.ns
    exact ⟨m, o, es, ep, hM _ _ (.inl rfl) e, r⟩
  · obtain ⟨ov, o, e, r⟩ := S₀.cel n a h
    exact ⟨ov, o, hM _ _ (.inr (.inl ⟨n, h⟩)) e, r⟩
  · obtain ⟨v, a, b⟩ := S.vars x d e
    refine ⟨v, ?_, b.mono hx⟩
    rcases a with ⟨a, m, ⟨o, es, ep, e', r⟩, q⟩ | ⟨a, c', q, o, e', r⟩
    · exact .inl ⟨a, m, ⟨o, es, ep, hM _ _ (.inl rfl) e', r⟩, q⟩
    · exact .inr ⟨a, c', q, o, hM _ _ (.inr (.inl ⟨x, q⟩)) e', r⟩
  · obtain ⟨vs, ⟨o, e, y⟩, b⟩ := S.mem a ds m
    exact ⟨vs, ⟨o, hM _ _ (.inr (.inr ⟨ds, m⟩)) e, y⟩, b.mono hx⟩

theorem cf_other : ∀ (names : List (Str × NameKind)) (k : Nat) (acc : List (Str × Addr)) (n : Str), (∀ p ∈ names, p.2 = NameKind.cell → p.1 ≠ n) → (cellsFrom k names acc).lookup n = acc.lookup n
  | [], _, _, _, _ => rfl
  | (name, kind) :: r, k, acc, n, h => by
    have ih := fun k acc => cf_other r k acc n fun p hp => h p (List.mem_cons_of_mem _ hp)
    unfold cellsFrom
    split
    · rename_i hk
      have hk' : kind = .cell := by simpa using hk
      rw [ih, List.lookup_cons]
      have : (n == name) = false := by simpa using fun e => h (name, kind) List.mem_cons_self hk' (Eq.symm e)
      rw [this]
    · exact ih k acc

/-- the tests of a comprehension -/
def Tests (c : Cx) (k : Nat) (env : Env) (ρ : Vars) (ifs : List Expr) (b : Bool) : Prop :=
  ∀ X A s E, Room k A → Rc c X env ρ [] s → wpAny (model c.prog c.w) A (forIn ifs true fun c r => if r = true then do let ok ← isTrue c env (eval c env); pure (ForInStep.yield ok) else pure (ForInStep.yield r)) (fun ok s' => Kp s s' ∧ ok = b) E s
theorem tests_nil {c : Cx} {k : Nat} {env : Env} {ρ : Vars} : Tests c k env ρ [] true := fun _ _ s _ _ _ => by
  rw [List.forIn_nil]; exact wpAny_pure ⟨Kp.refl s, rfl⟩
theorem tests_one {c : Cx} {k : Nat} {env : Env} {ρ : Vars} {e : Expr} {b : Bool} (h : Tr c k env ρ [] e b) : Tests c k env ρ [e] b := fun X A s E hA R => by
  rw [List.forIn_cons]
  simp only [if_true]
  refine wpAny_bind (wpAny_bind (wpAny_mono (h X A s E hA R) (fun v s' q => wpAny_pure ?_) fun _ _ e => e))
  simp only [List.forIn_nil]
  exact wpAny_pure q

def compOk (scope : Scope) (env : Env) (x : Str) : Bool := freeOk scope env && (scope.kind == .function) && (scope.names.lookup x == some .local || scope.names.lookup x == some .cell) &&
  scope.names.all fun p => (p.2 != .cell || p.1 == x) && (p.2 != .free || !(p.1 == x)) && (p.2 != .local || scope.names.lookup p.1 == some .local)

structure CompOk (scope : Scope) (env : Env) (x : Str) : Prop where
  free : freeOk scope env = true
  kind : scope.kind = .function
  tgt : scope.names.lookup x = some .local ∨ scope.names.lookup x = some .cell
  cell : ∀ p ∈ scope.names, p.2 = .cell → p.1 = x
  nfree : ∀ p ∈ scope.names, p.2 = .free → p.1 ≠ x
  names : ∀ p ∈ scope.names, p.2 = .local → scope.names.lookup p.1 = some .local
theorem CompOk.of {scope : Scope} {env : Env} {x : Str} (h : compOk scope env x = true) : CompOk scope env x := by
  unfold compOk at h
  simp only [Bool.and_eq_true, Bool.or_eq_true, List.all_eq_true, beq_iff_eq, bne_iff_ne, Bool.not_eq_true'] at h
  obtain ⟨⟨⟨h1, h2⟩, h3⟩, h4⟩ := h
  refine ⟨h1, h2, h3, fun p hp e => ?_, fun p hp e => ?_, fun p hp e => ?_⟩
  · rcases (h4 p hp).1.1 with q | q
    · exact absurd e q
    · exact q
  · rcases (h4 p hp).1.2 with q | q
    · exact absurd e q
    · simpa using q
  · rcases (h4 p hp).2 with q | q
    · exact absurd e q
    · exact q

theorem relabel_cell {env : Env} {x : Str} : ∀ {names : List (Str × NameKind)}, names.lookup x = some .cell →
    (names.map fun (n, k) => if (k == NameKind.free && env.scope.kind == .function && env.kindOf n == some .cell) then (n, NameKind.cell) else (n, k)).lookup x = some .cell
  | [], h => by simp at h
  | (n, k) :: r, h => by
    have ih := @relabel_cell env x r
    rw [List.map_cons]
    cases hx : x == n with
    | true =>
      simp only [List.lookup_cons, hx] at h
      cases h
      simp [List.lookup_cons, hx]
    | false =>
      simp only [List.lookup_cons, hx] at h
      by_cases hc : (k == NameKind.free && env.scope.kind == .function && env.kindOf n == some .cell) = true
      · simp only [hc, if_true, List.lookup_cons, hx]; exact ih h
      · simp only [hc, Bool.false_eq_true, if_false, List.lookup_cons, hx]; exact ih h

section
variable {c : Cx} {k : Nat} {env : Env} {ρ : Vars} {μ : Mem} {elt iter : Expr} {x : Str} {px : Pos} {ifs : List Expr} {scope : Scope} {pos : Pos} {ds : List D} {p : D → Bool} {f : D → D}

/-- the block of a comprehension, as it stands ahead of its turns -/
structure CB (c : Cx) (X : Addr → Prop) (ρc : Vars) (x : Str) (s s₂ : Shared) (wr : List Addr) (D : Nat) (cenv : Env) (h₄ : Heap) : Prop where
  old : ∀ (b : Nat) o, s₂.heap.get? b = some o → b < D
  sub : Sub s₂.heap h₄
  muts : ∀ (a : Nat), Mut cenv [] a → a = D + 1 ∨ D + 2 ≤ a ∨ (X a ∧ ∃ o, s.heap.get? a = some o)
  loc : cenv.locals = D + 1
  st : St c (fun a => X a ∨ a ∈ D :: wr) cenv ρc [] { s₂ with heap := h₄ }
  stor : stor cenv x = true
  addr : D + 1 ≤ addrOf cenv x
  list : h₄.IsList D #[]
  fresh : ∀ y d, ρc.lookup y = some d → y ≠ x

section
variable {X : Addr → Prop} {A : Around} {E : Value → Shared → Prop} {s s₂ : Shared} {I : Addr} {fp wr : List Addr} {P : Nat → Value → Prop} {W : Nat → Heap → Prop} {D : Nat} {cenv : Env} {h₄ : Heap} {ρc : Vars}
theorem CB.new (B : CB c X ρc x s s₂ wr D cenv h₄) {b : Nat} (h : D ≤ b) : s₂.heap.get? b = none := none_of fun o e => absurd (B.old b o e) (Nat.not_lt.mpr h)
theorem CB.outM (B : CB c X ρc x s s₂ wr D cenv h₄) {b : Nat} (h1 : b ≤ D) (h2 : X b → ∀ o, s.heap.get? b = some o → False) : ¬ Mut cenv [] b := fun m => by
  rcases B.muts b m with q | q | ⟨q, o, e⟩
  · exact absurd h1 (q ▸ Nat.not_succ_le_self D)
  · exact absurd h1 (Nat.not_le.mpr (Nat.lt_of_lt_of_le (Nat.lt_succ_of_lt (Nat.lt_succ_self D)) q))
  · exact h2 q o e
theorem CB.DM (B : CB c X ρc x s s₂ wr D cenv h₄) (O : SrcOf c X A ds s s₂ I fp wr P W) : ¬ Mut cenv [] D := B.outM (Nat.le_refl _) fun _ o e => no1 (B.new (Nat.le_refl _)) (O.kp.sub D o e)
theorem CB.wD (B : CB c X ρc x s s₂ wr D cenv h₄) (O : SrcOf c X A ds s s₂ I fp wr P W) {b : Nat} (h : b ∈ wr) : b < D := let ⟨o, e⟩ := O.wrLive 0 _ O.start b h; B.old b o e
theorem CB.wM (B : CB c X ρc x s s₂ wr D cenv h₄) (O : SrcOf c X A ds s s₂ I fp wr P W) : ∀ (b : Nat), b ∈ wr → ¬ Mut cenv [] b := fun b h => B.outM (Nat.le_of_lt (B.wD O h)) fun _ o e => no1 (O.new b h) e
theorem CB.fM (B : CB c X ρc x s s₂ wr D cenv h₄) (O : SrcOf c X A ds s s₂ I fp wr P W) : ∀ (b : Nat), b ∈ fp → ¬ Mut cenv [] b := fun b h => by
  obtain ⟨q1, o, e⟩ := O.foot b h
  exact B.outM (Nat.le_of_lt (B.old b o e)) fun q o' e' => q1.elim (fun w => no1 (O.new b w) e') fun w => w q

/-- where a comprehension stands ahead of turn i -/
structure CAt (c : Cx) (X : Addr → Prop) (ρc : Vars) (s₂ : Shared) (wr : List Addr) (W : Nat → Heap → Prop) (D : Nat) (cenv : Env) (out : List Mine.D) (i : Nat) (s' : Shared) : Prop where
  w : W i s'.heap
  st : St c (fun a => X a ∨ a ∈ D :: wr) cenv ρc [] s'
  list : ∃ ys, s'.heap.IsList D ys ∧ RdAll (XOf (fun a => X a ∨ a ∈ D :: wr) cenv []) s'.heap ys.toList out
  same : Same s₂ s'
  keep : ∀ b o, b ∉ wr → s₂.heap.get? b = some o → s'.heap.get? b = some o

theorem CAt.kp {out : List Mine.D} {i : Nat} {s' s'' : Shared} (C : CAt c X ρc s₂ wr W D cenv out i s') (O : SrcOf c X A ds s s₂ I fp wr P W) (k : Kp s' s'') : CAt c X ρc s₂ wr W D cenv out i s'' :=
  ⟨O.walks.frame _ _ _ C.w fun b _ o e => k.sub b o e, C.st.kp k, let ⟨ys, ⟨o, e, q⟩, r⟩ := C.list; ⟨ys, ⟨o, k.sub D o e, q⟩, r.keep k.sub⟩, C.same.trans k.same, fun b o w e => k.sub b o (C.keep b o w e)⟩
theorem CAt.weak {out : List Mine.D} {i : Nat} {s' : Shared} {ρ₁ : Vars} (C : CAt c X ρ₁ s₂ wr W D cenv out i s') (h : ∀ y d, ρc.lookup y = some d → ρ₁.lookup y = some d) : CAt c X ρc s₂ wr W D cenv out i s' := ⟨C.w, C.st.weak h, C.list, C.same, C.keep⟩

/-- the item is taken -/
theorem comp_take {out : List Mine.D} {i : Nat} {s' : Shared} {v : Value} {h' : Heap} {tk : Nat} {Q : Unit → Shared → Prop} (B : CB c X ρc x s s₂ wr D cenv h₄) (O : SrcOf c X A ds s s₂ I fp wr P W) (hb : Sub c.base s.heap) (C : CAt c X ρc s₂ wr W D cenv out i s') (hlt : i < ds.length) (hP : P i v) (hW : W (i + 1) h')
    (hk : ∀ b o, b ∉ wr → s'.heap.get? b = some o → h'.get? b = some o) (h : ∀ s₆, CAt c X ((x, ds[i]) :: ρc) s₂ wr W D cenv out (i + 1) s₆ → Q () s₆) : wpAny (model c.prog c.w) A (assign (.Name x px) cenv v) Q E { s' with heap := h', toks := tk } := by
  have S₅ : St c (fun a => X a ∨ a ∈ D :: wr) cenv ρc [] { s' with heap := h', toks := tk } := C.st.inX (s' := { s' with heap := h', toks := tk }) hk (fun b hb => .inr (List.mem_cons_of_mem _ hb)) (O.wrLive _ _ hW) (B.wM O) (O.new_base hb)
  have K5 : ∀ b o, b ∉ wr → s₂.heap.get? b = some o → h'.get? b = some o := fun b o w e => hk b o w (C.keep b o w e)
  have r₅ : Rd (XOf (fun a => X a ∨ a ∈ D :: wr) cenv []) h' v ds[i] := (O.item i _ v (List.getElem?_eq_getElem hlt) hP).mono fun (a : Nat) o n e => by
    have nw : a ∉ wr := fun w => n (.inr w)
    have := B.old a o e
    refine ⟨?_, K5 a o nw e⟩
    rintro ((y | y) | y)
    · exact n (.inl y)
    · exact (List.mem_cons.mp y).elim (Nat.ne_of_lt this) nw
    · exact B.outM (Nat.le_of_lt this) (fun q _ _ => n (.inl q)) y
  refine wpAny_assign_Name (st_store' S₅ B.stor r₅ fun s₆ S₆ g₆ hsb => h s₆ ⟨O.walks.frame _ _ _ hW fun b hb o e => g₆.keep b o (B.fM O b hb) e, S₆, ?_, C.same.trans ⟨g₆.same.os, g₆.same.gens⟩, fun b o w e => hsb.extBut b o (Nat.ne_of_lt (Nat.lt_of_lt_of_le (B.old b o e) (Nat.le_trans (Nat.le_succ _) B.addr))) (K5 b o w e)⟩)
  obtain ⟨ys, ⟨o, e, q⟩, r⟩ := C.list
  exact ⟨ys, ⟨o, g₆.keep D o (B.DM O) (hk D o (fun w => Nat.lt_irrefl _ (B.wD O w)) e), q⟩, r.mono fun a o n e => ⟨n, g₆.keep a o (fun m => n (.inr m)) (hk a o (fun w => n (.inl (.inr (List.mem_cons_of_mem _ w)))) e)⟩⟩

/-- and goes into the list -/
theorem comp_put {out : List Mine.D} {i : Nat} {s' : Shared} {u : Value} {d : Mine.D} {Q : Value → Shared → Prop} {ρ₁ : Vars} (B : CB c X ρc x s s₂ wr D cenv h₄) (O : SrcOf c X A ds s s₂ I fp wr P W) (hb : Sub c.base s.heap) (hz : out.length ≤ sizeLine) (C : CAt c X ρ₁ s₂ wr W D cenv out i s') (r : Rd (XOf (fun a => X a ∨ a ∈ D :: wr) cenv []) s'.heap u d)
    (h : ∀ h', CAt c X ρ₁ s₂ wr W D cenv (out ++ [d]) i { s' with heap := h' } → Q .none { s' with heap := h' }) : wpAny (model c.prog c.w) A (call (.builtin "list.append") [.ref D, u]) Q E s' := by
  obtain ⟨ys, hl, hr⟩ := C.list
  refine wpAny_list_append (hsz := by have := hr.length; rw [Array.length_toList] at this; exact this ▸ hz) hl fun h₉ hl₉ hs₉ => h h₉ ?_
  have hD : ∀ b, b ∈ [D] → b = D := fun b h => List.mem_singleton.mp h
  have hXD : XOf (fun a => X a ∨ a ∈ D :: wr) cenv [] D := .inl (.inr List.mem_cons_self)
  refine ⟨O.walks.frame _ _ _ C.w fun b hb o e => hs₉.extBut b o (by obtain ⟨_, o', e'⟩ := O.foot b hb; exact Nat.ne_of_lt (B.old b o' e')) e,
    C.st.inX (s' := { s' with heap := h₉ }) (wr := [D]) (fun b o w e => hs₉.extBut b o (fun q => w (List.mem_singleton.mpr q)) e) (fun b hb => hD b hb ▸ .inr List.mem_cons_self) (fun b hb => hD b hb ▸ (let ⟨o, e, _⟩ := hl₉; ⟨o, e⟩)) (fun b hb => hD b hb ▸ B.DM O) (fun b h => hD b h ▸ none_of fun o e => no1 (B.new (Nat.le_refl _)) (O.kp.sub D o (hb D o e))),
    ⟨ys.push u, hl₉, by rw [Array.toList_push]; exact (hr.but hXD hs₉).append (.cons (r.but hXD hs₉) .nil)⟩, C.same.trans ⟨rfl, rfl⟩, fun b o w e => hs₉.extBut b o (Nat.ne_of_lt (B.old b o e)) (C.keep b o w e)⟩

theorem comp_done {s' : Shared} {h' : Heap} {tk : Nat} {i : Nat} {out : List Mine.D} (B : CB c X ρc x s s₂ wr D cenv h₄) (O : SrcOf c X A ds s s₂ I fp wr P W) (hl : ∀ a, X a → ∃ o, s.heap.get? a = some o) (C : CAt c X ρc s₂ wr W D cenv out i s') (hk : ∀ b o, b ∉ wr → s'.heap.get? b = some o → h'.get? b = some o) :
    (∃ m, h'.Ns (D + 1) m) ∧ Rd (fun a => X a ∨ a = D + 1) h' (.ref D) (.list out) ∧ Kp s { s' with heap := h', toks := tk } := by
  refine ⟨?_, ?_, fun b o e => ?_, (O.kp.same.trans C.same).trans ⟨rfl, rfl⟩⟩
  · obtain ⟨m, o, es, ep, e, r⟩ := C.st.ns
    exact ⟨m, o, es, ep, B.loc ▸ hk _ o (fun w => B.wM O _ w (.inl rfl)) e, r⟩
  · obtain ⟨ys, ⟨o, e, hc, n, hd⟩, hr⟩ := C.list
    refine .list ?_ (hk D o (fun w => Nat.lt_irrefl _ (B.wD O w)) e) hc hd (hr.mono fun a o n e => ⟨fun y => n (y.elim (fun y => .inl (.inl y)) fun y => .inr (.inl (y.trans B.loc.symm))), hk a o (fun w => n (.inl (.inr (List.mem_cons_of_mem _ w)))) e⟩)
    rintro (y | y)
    · obtain ⟨o', e'⟩ := hl D y
      exact no1 (B.new (Nat.le_refl _)) (O.kp.sub D o' e')
    · exact absurd y (Nat.ne_of_lt (Nat.lt_succ_self _))
  · have w : b ∉ wr := fun w => no1 (O.new b w) e
    exact hk b o w (C.keep b o w (O.kp.sub b o e))

theorem comp_loop {R : Result → Shared → Prop} (hA : Room k A) (hbase : Sub c.base s.heap) (hlive : ∀ a, X a → ∃ o, s.heap.get? a = some o) (B : CB c X ρc x s s₂ wr D cenv h₄) (O : SrcOf c X A ds s s₂ I fp wr P W) (hlen : ds.length ≤ 16777216)
    (tests : ∀ d, d ∈ ds → Tests c k cenv ((x, d) :: ρc) ifs (p d)) (elts : ∀ d, d ∈ ds → p d = true → Ev c k cenv ((x, d) :: ρc) [] elt (f d))
    (hR : ∀ s', (∃ m, s'.heap.Ns (D + 1) m) → Rd (fun a => X a ∨ a = D + 1) s'.heap (.ref D) (.list ((ds.filter p).map f)) → Kp s s' → R (.ok .next) s') :
    codeAny (model c.prog c.w) A (.compLoop (.ListComp elt [⟨.Name x px, iter, ifs, 0⟩] scope pos) 0 (.ref I) (.ref D) cenv) R { s₂ with heap := h₄ } := by
  refine codeAny_compLoop_tests (fun n s' => ∃ i, i ≤ ds.length ∧ n = ds.length + 1 - i ∧ CAt c X ρc s₂ wr W D cenv (((ds.take i).filter p).map f) i s') ?_ (ds.length + 1)
    ⟨0, Nat.zero_le _, rfl, O.walks.frame _ _ _ O.start fun b hb o e => B.sub b o e, B.st, ⟨#[], B.list, .nil⟩, ⟨rfl, rfl⟩, fun b o _ e => B.sub b o e⟩
  rintro n s' ⟨i, hle, rfl, C⟩
  by_cases hlt : i < ds.length
  · refine O.walks.item i s' _ _ hlt C.w fun v h' tk hP hW' hk => comp_take B O hbase C hlt hP hW' hk fun s₆ C₆ => ?_
    have hmem : ds[i] ∈ ds := List.getElem_mem hlt
    have htake : ds.take (i + 1) = ds.take i ++ [ds[i]] := by rw [List.take_add_one, List.getElem?_eq_getElem hlt]; rfl
    have hn : ds.length + 1 - (i + 1) < ds.length + 1 - i := Nat.sub_lt_sub_left (Nat.lt_succ_of_lt hlt) (Nat.lt_succ_self i)
    have hw : ∀ y d, ρc.lookup y = some d → ((x, ds[i]) :: ρc).lookup y = some d := fun y d e => by
      rw [List.lookup_cons, beq_false_of_ne (B.fresh y d e)]; exact e
    refine wpAny_mono (tests ds[i] hmem _ A s₆ _ hA C₆.st.rc) (fun b s₇ q => ?_) fun _ _ e => e
    obtain ⟨k₇, rfl⟩ := q
    have C₇ := C₆.kp O k₇
    cases hp : p ds[i] with
    | false =>
      simp only [Bool.false_eq_true, if_false]
      have ho : ((ds.take (i + 1)).filter p).map f = ((ds.take i).filter p).map f := by rw [htake, List.filter_append]; simp [hp]
      exact ⟨_, hn, i + 1, hlt, rfl, ho ▸ C₇.weak hw⟩
    | true =>
      simp only [if_true]
      refine gives_bind (elts ds[i] hmem hp _ A s₇ hA C₇.st.rc) fun u s₈ k₈ r₈ => comp_put B O hbase ?_ (C₇.kp O k₈) r₈ fun h₉ C₉ => ?_
      · rw [List.length_map, sizeLine_eq]
        exact Nat.le_trans (List.length_filter_le _ _) (Nat.le_trans (List.length_take_le _ _) (by lia))
      · have ho : ((ds.take (i + 1)).filter p).map f = ((ds.take i).filter p).map f ++ [f ds[i]] := by rw [htake, List.filter_append]; simp [hp]
        exact ⟨_, hn, i + 1, hlt, rfl, ho ▸ C₉.weak hw⟩
  · have hin : i = ds.length := Nat.le_antisymm hle (Nat.not_lt.mp hlt)
    refine O.walks.done s' _ _ (hin ▸ C.w) fun h' tk hk => ?_
    obtain ⟨x1, x2, x3⟩ := comp_done (tk := tk) B O hlive C hk
    rw [hin, List.take_length] at x2
    exact hR _ x1 x2 x3
end

theorem comp_block {X : Addr → Prop} {A : Around} {s s₂ : Shared} {I : Addr} {fp wr : List Addr} {P : Nat → Value → Prop} {W : Nat → Heap → Prop} {cl cells : List (Str × Addr)} {D : Nat} {H h₄ : Heap} (R : Rc c X env ρ μ s) (O : SrcOf c X A ds s s₂ I fp wr P W) (ok : CompOk scope env x)
    (hcl1 : ∀ n, (n, NameKind.free) ∈ scope.names → ∃ a, cl.lookup n = some a) (hcl2 : ∀ n a, cl.lookup n = some a → env.cells.lookup n = some a ∧ (n, NameKind.free) ∈ scope.names)
    (hD : s₂.heap.objs.size = D) (hH : s₂.heap.push { cls := .type "list", dict := none, data := .seq ([] : List Value).toArray } = H) (hC : H.objs.size = D + 1) (hcells : cellsFrom (D + 1 + 1) scope.names cl = cells) (hh₄ : pushCells (H.push { cls := .type "dict", data := .dict #[] }) scope.names = h₄) :
    CB c X (capt scope ρ) x s s₂ wr D (cenvOf scope env (D + 1) cells) h₄ := by
  have old₂ : ∀ (b : Nat) o, s₂.heap.get? b = some o → b < D := fun b o e => hD ▸ Heap.lt_size e
  have hsz : (H.push { cls := .type "dict", data := .dict #[] }).objs.size = D + 2 := by rw [Heap.size_push, hC]
  have k₄ : Sub s₂.heap h₄ := fun b o e => hh₄ ▸ pushCells_keeps _ _ b o (Heap.get?_push_of_some _ (hH ▸ Heap.get?_push_of_some _ e))
  have hk₄ : Sub s.heap h₄ := O.kp.sub.trans k₄
  have listD : ∃ o, h₄.get? D = some o ∧ o.cls = .type "list" ∧ o.data = .seq #[] := ⟨_, hh₄ ▸ pushCells_keeps _ _ _ _ (Heap.get?_push_of_some _ (hH ▸ hD ▸ Heap.get?_push_size _ rfl)), rfl, rfl⟩
  have look : ∀ n (a : Nat), cells.lookup n = some a → (cl.lookup n = some a) ∨ (D + 2 ≤ a ∧ h₄.IsCell a none) := fun n a e => by
    have hcells' : cells = cellsFrom (H.push { cls := .type "dict", data := .dict #[] }).objs.size scope.names cl := by rw [hsz, ← hcells]
    rw [hcells'] at e
    rcases cf_lookup _ _ _ _ _ e with q | q
    · exact .inl q
    · rw [hsz, hh₄] at q; exact .inr q
  have clLive : ∀ n (a : Nat), cl.lookup n = some a → X a ∧ c.base.get? a = none ∧ (∃ ov, s.heap.IsCell a ov) ∧ a < D := fun n a e => by
    obtain ⟨x1, x2, ov, o, e', r⟩ := R.cel n a (hcl2 n a e).1
    exact ⟨x1, x2, ⟨ov, o, e', r⟩, old₂ a o (O.kp.sub a o e')⟩
  have baseD : ∀ (b : Nat), D ≤ b → c.base.get? b = none := fun b hb => none_of fun o e => absurd (old₂ b o (O.kp.sub b o (R.base b o e))) (Nat.not_lt.mpr hb)
  have hMut : ∀ (a : Nat), Mut (cenvOf scope env (D + 1) cells) [] a → a = D + 1 ∨ D + 2 ≤ a ∨ (X a ∧ ∃ o, s.heap.get? a = some o) := fun a m => by
    rcases m with m | ⟨n, m⟩ | ⟨_, m⟩
    · exact .inl m
    · rcases look n a m with q | q
      · obtain ⟨x1, _, ⟨_, o, e, _⟩, _⟩ := clLive n a q; exact .inr (.inr ⟨x1, o, e⟩)
      · exact .inr (.inl q.1)
    · cases m
  have hX₁ : ∀ (a : Nat) o, ¬ X a → s.heap.get? a = some o → ¬ XOf (fun a => X a ∨ a ∈ D :: wr) (cenvOf scope env (D + 1) cells) [] a ∧ h₄.get? a = some o := fun a o n e => by
    have := old₂ a o (O.kp.sub a o e)
    refine ⟨?_, hk₄ a o e⟩
    rintro ((y | y) | y)
    · exact n y
    · exact (List.mem_cons.mp y).elim (Nat.ne_of_lt this) fun y => no1 (O.new a y) e
    · rcases hMut a y with q | q | ⟨q, _⟩
      · lia
      · lia
      · exact n q
  refine ⟨old₂, k₄, hMut, rfl, ?_, ?_, ?_, let ⟨o, e, q1, q2⟩ := listD; ⟨o, e, q1, _, q2⟩, fun y d e q => ?_⟩
  · refine ⟨⟨ok.kind, R.ok.globals, R.ok.builtins, fun n h => ?_⟩, R.base.trans hk₄, fun a m => ?_, fun a h => ?_, ?_, fun n a h => ?_, fun n n' a h h' => ?_, fun y d e => ?_, fun a ds m => ?_, List.nodup_nil, fun _ _ m => (nomatch m)⟩
    · have hm : (n, NameKind.cell) ∈ scope.names ∨ (n, NameKind.free) ∈ scope.names := by
        rcases h with h | h
        · exact relabel_mem (mem_lookup h)
        · exact (relabel_mem (mem_lookup h)).elim .inr .inr
      show ∃ a, cells.lookup n = some a
      rw [← hcells]
      exact cf_has _ _ _ _ (hm.imp id (hcl1 n))
    · rcases m with m | ⟨n, m⟩ | ⟨_, m⟩
      · exact baseD a (by have : (a : Nat) = D + 1 := m; exact this ▸ Nat.le_succ D)
      · rcases look n a m with q | q
        · exact (clLive n a q).2.1
        · exact baseD a (Nat.le_trans (by lia) q.1)
      · cases m
    · rcases h with h | h
      · exact (R.live a h).imp fun o e => hk₄ a o e
      · rcases List.mem_cons.mp h with h | h
        · obtain ⟨o, e, _⟩ := listD; exact ⟨o, h ▸ e⟩
        · exact (O.wrLive 0 _ O.start a h).imp fun o e => k₄ a o e
    · refine ⟨fun _ => none, ?_⟩
      have := (Heap.Ns.new H (.type "dict")).keeps (pushCells_keeps scope.names (H.push { cls := .type "dict", data := .dict #[] }))
      rw [hh₄, hC] at this
      exact this
    · rcases look n a h with q | q
      · obtain ⟨_, _, ⟨ov, x3⟩, _⟩ := clLive n a q; exact ⟨ov, x3.keeps hk₄⟩
      · exact ⟨_, q.2⟩
    · have h1 : cells.lookup n = some a := h
      have h2 : cells.lookup n' = some a := h'
      rw [← hcells] at h1 h2
      refine cf_apart _ _ _ (fun m m' b e e' => R.apart m m' b (hcl2 m b e).1 (hcl2 m' b e').1) (fun m b e => ?_) n n' a h1 h2
      exact Nat.lt_of_lt_of_le (clLive m b e).2.2.2 (by lia)
    · obtain ⟨e1, e2, e3⟩ := lookup_capt e
      obtain ⟨v, hv, hr⟩ := R.vars y d e1
      have hm := mem_lookup e2
      have hfr : env.kindOf y = some .cell ∨ env.kindOf y = some .free := by
        have h1 := List.all_eq_true.mp ok.free _ hm
        simpa using h1
      refine ⟨v, ?_, hr.mono hX₁⟩
      rcases hv with ⟨a, _⟩ | ⟨_, a, ha, hc⟩
      · rcases hfr with q | q <;> rw [q] at a <;> cases a
      · refine .inr ⟨?_, a, ?_, hc.keeps hk₄⟩
        · rcases relabel_free (env := env) e2 with q | q
          · exact .inl q
          · exact .inr ⟨q, e3⟩
        · show cells.lookup y = some a
          rw [← hcells, cf_other _ _ _ _ (fun q hq hc' e' => ok.nfree _ hm rfl (e'.symm.trans (ok.cell q hq hc')))]
          obtain ⟨b, hb⟩ := hcl1 y hm
          rw [hb, ← (hcl2 y b hb).1, ha]
    · cases m
  · rcases ok.tgt with q | q
    · have : (cenvOf scope env (D + 1) cells).kindOf x = some .local := lookup_relabel_local q
      unfold stor; rw [this]
    · have : (cenvOf scope env (D + 1) cells).kindOf x = some .cell := relabel_cell q
      unfold stor; rw [this]
  · unfold addrOf
    split
    · exact Nat.le_refl _
    · rename_i hnl
      rcases ok.tgt with q | q
      · exact absurd (lookup_relabel_local q) hnl
      · obtain ⟨a, ha⟩ := cf_has scope.names (D + 1 + 1) cl x (.inl (mem_lookup q))
        rw [hcells] at ha
        show D + 1 ≤ (cells.lookup x).getD 0
        rw [ha]
        rcases look x a ha with z | z
        · exact absurd rfl (ok.nfree _ (hcl2 x a z).2 rfl)
        · show D + 1 ≤ a; lia
  · subst q; exact ok.nfree _ (mem_lookup (lookup_capt e).2.1) rfl rfl

theorem comp_core {X : Addr → Prop} {A : Around} {E : Value → Shared → Prop} {s s₂ : Shared} {I : Addr} {fp wr : List Addr} {P : Nat → Value → Prop} {W : Nat → Heap → Prop} {cl : List (Str × Addr)} {RR : Value → Addr → Result → Shared → Prop}
    (hA : Room k A) (R : Rc c X env ρ μ s) (O : SrcOf c X A ds s s₂ I fp wr P W) (ok : CompOk scope env x) (hlen : ds.length ≤ 16777216)
    (hcl1 : ∀ n, (n, NameKind.free) ∈ scope.names → ∃ a, cl.lookup n = some a) (hcl2 : ∀ n a, cl.lookup n = some a → env.cells.lookup n = some a ∧ (n, NameKind.free) ∈ scope.names)
    (tests : ∀ C cl d, d ∈ ds → Tests c k (cenvOf scope env C cl) ((x, d) :: capt scope ρ) ifs (p d))
    (elts : ∀ C cl d, d ∈ ds → p d = true → Ev c k (cenvOf scope env C cl) ((x, d) :: capt scope ρ) [] elt (f d))
    (hRR : ∀ D C s', s₂.heap.get? D = none → s₂.heap.get? C = none → D ≠ C → (∃ m, s'.heap.Ns C m) → Rd (fun a => X a ∨ a = C) s'.heap (.ref D) (.list ((ds.filter p).map f)) → Kp s s' → RR (.ref D) C (.ok .next) s') :
    wpAny (model c.prog c.w) A (newList []) (fun acc s₃ => wpAny (model c.prog c.w) A (newFunctionEnv scope env.globals cl [] env.qual none .none (some env)) (fun cenv s₄ =>
      codeAny (model c.prog c.w) A (.compStart (.ListComp elt [⟨.Name x px, iter, ifs, 0⟩] scope pos) 0 (.ref I) acc { cenv with scope := relabel scope env }) (RR acc cenv.locals) s₄) E s₃) E s₂ := by
  refine wpAny_newObj_type (newBlock ?_)
  dsimp only
  generalize hD : s₂.heap.objs.size = D
  generalize hH : s₂.heap.push { cls := .type "list", dict := none, data := .seq ([] : List Value).toArray } = H
  have hC : H.objs.size = D + 1 := by rw [← hH, Heap.size_push, hD]
  generalize hcells : cellsFrom (H.objs.size + 1) scope.names cl = cells
  generalize hh₄ : pushCells (H.push { cls := .type "dict", data := .dict #[] }) scope.names = h₄
  rw [hC] at hcells ⊢
  have B := comp_block R O ok hcl1 hcl2 hD hH hC hcells hh₄
  have loop := comp_loop (iter := iter) (px := px) (scope := scope) (pos := pos) (R := RR (.ref D) (D + 1)) hA R.base R.live B O hlen (fun d h => tests _ _ d h) (fun d h => elts _ _ d h) fun s' q1 q2 q3 => hRR D (D + 1) s' (B.new (Nat.le_refl _)) (B.new (Nat.le_succ _)) (Nat.ne_of_lt (Nat.lt_succ_self _)) q1 q2 q3
  exact codeAny_compStart_list loop (O.walks.self 0 _ _ _ (O.walks.frame _ _ _ O.start fun b hb o e => B.sub b o e) loop)

theorem closureFor_free {scope : Scope} {env : Env} (hh : ∀ n, env.kindOf n = some .cell ∨ env.kindOf n = some .free → ∃ a, env.cells.lookup n = some a) (hf : freeOk scope env = true) :
    ∃ cl, closureFor scope env = pure cl ∧ (∀ n, (n, NameKind.free) ∈ scope.names → ∃ a, cl.lookup n = some a) ∧ (∀ n a, cl.lookup n = some a → env.cells.lookup n = some a ∧ (n, NameKind.free) ∈ scope.names) := by
  have main : ∀ (names : List (Str × NameKind)) (acc : List (Str × Addr)), (names.all fun p => p.2 != .free || (env.kindOf p.1 == some .cell || env.kindOf p.1 == some .free)) = true → (∀ n a, acc.lookup n = some a → env.cells.lookup n = some a ∧ (n, NameKind.free) ∈ scope.names) → (∀ p ∈ names, p ∈ scope.names) →
      ∃ cl, (forIn names acc fun (x : Str × NameKind) r => (match x with | (name, kind) => if (kind == .free) = true then do let a ← cellOf env name; pure (ForInStep.yield ((name, a) :: r)) else pure (ForInStep.yield r) : Sem (ForInStep (List (Str × Addr))))) = pure cl ∧
        (∀ n, (n, NameKind.free) ∈ names ∨ (∃ a, acc.lookup n = some a) → ∃ a, cl.lookup n = some a) ∧ (∀ n a, cl.lookup n = some a → env.cells.lookup n = some a ∧ (n, NameKind.free) ∈ scope.names) := by
    intro names
    induction names with
    | nil => intro acc _ ha _; exact ⟨acc, rfl, fun n h => by rcases h with h | h; cases h; exact h, ha⟩
    | cons p r ih =>
      intro acc h ha hsub
      obtain ⟨name, kind⟩ := p
      rw [List.all_cons, Bool.and_eq_true] at h
      obtain ⟨h1, h2⟩ := h
      have hsub' : ∀ p ∈ r, p ∈ scope.names := fun p hp => hsub p (List.mem_cons_of_mem _ hp)
      rw [List.forIn_cons]
      by_cases hk : (kind == NameKind.free) = true
      · have hk' : kind = .free := by simpa using hk
        subst hk'
        obtain ⟨a, e⟩ : ∃ a, env.cells.lookup name = some a := hh name (by simpa using h1)
        have e2 : cellOf env name = pure a := by unfold cellOf; rw [e]
        obtain ⟨cl, q1, q2, q3⟩ := ih ((name, a) :: acc) h2 (fun n b q => by
          rw [List.lookup_cons] at q
          cases hb : n == name with
          | true => rw [hb] at q; cases q; rw [beq_iff_eq.mp hb]; exact ⟨e, hsub _ List.mem_cons_self⟩
          | false => rw [hb] at q; exact ha n b q) hsub'
        refine ⟨cl, ?_, fun n q => q2 n ?_, q3⟩
        · simp only [beq_self_eq_true, if_true, e2, pure_bind]; exact q1
        · rcases q with q | ⟨b, q⟩
          · rcases List.mem_cons.mp q with z | z
            · cases z; exact .inr ⟨a, by simp⟩
            · exact .inl z
          · refine .inr ?_
            rw [List.lookup_cons]; split
            · exact ⟨_, rfl⟩
            · exact ⟨b, q⟩
      · obtain ⟨cl, q1, q2, q3⟩ := ih acc h2 ha hsub'
        refine ⟨cl, ?_, fun n q => q2 n ?_, q3⟩
        · simp only [Bool.not_eq_true] at hk
          simp only [hk, Bool.false_eq_true, if_false, pure_bind]; exact q1
        · rcases q with q | q
          · rcases List.mem_cons.mp q with z | z
            · cases z; simp at hk
            · exact .inl z
          · exact .inr q
  obtain ⟨cl, q1, q2, q3⟩ := main scope.names [] hf (fun n a e => by simp at e) fun p hp => hp
  refine ⟨cl, ?_, fun n h => q2 n (.inl h), q3⟩
  unfold closureFor
  simp only [q1, pure_bind]

/-- a list comprehension of one clause -/
theorem ev_comp (src : Src c k env ρ μ iter ds) (tests : ∀ C cl d, d ∈ ds → Tests c k (cenvOf scope env C cl) ((x, d) :: capt scope ρ) ifs (p d))
    (elts : ∀ C cl d, d ∈ ds → p d = true → Ev c k (cenvOf scope env C cl) ((x, d) :: capt scope ρ) [] elt (f d)) (hlen : ds.length ≤ 16777216)
    (ok : compOk scope env x = true := by rfl) (hs : ∀ x, foldedSetIterable iter env x = pure x := by intro _; rfl) : Ev c k env ρ μ (.ListComp elt [⟨.Name x px, iter, ifs, 0⟩] scope pos) (.list ((ds.filter p).map f)) := by
  intro X A s hA R E
  have ok' := CompOk.of ok
  obtain ⟨cl, hclos, hcl1, hcl2⟩ := closureFor_free R.ok.has ok'.free
  rw [eval_ListComp]
  refine wpAny_comprehension_free (use := none) rfl hs hclos ok'.kind ok'.names (wpAny_mono (src X A s E hA R) (fun xv s₁ h₁ => wpAny_mono h₁ (fun it s₂ h₂ => ?_) fun _ _ e => e) fun _ _ e => e)
  obtain ⟨I, fp, wr, P, W, rfl, O⟩ := h₂
  refine comp_core (RR := fun acc C => compPost (model c.prog c.w) A E none (fun v s' => Kp s s' ∧ Rd X s'.heap v (.list ((ds.filter p).map f))) acc C) hA R O ok' hlen hcl1 hcl2 tests elts ?_
  rintro D C s' hD hC hDC ⟨m, hn⟩ hr hk
  refine ⟨m, hn, fun h' hs' => ⟨?_, (hr.but (.inr rfl) hs').weak fun a h => .inl h⟩⟩
  have hCs : s.heap.get? C = none := by
    refine none_of fun o e => ?_
    first | exact (no1 (O.kp.sub C o e) hC).elim | exact (no1 hC (O.kp.sub C o e)).elim | (rw [O.kp.sub C o e] at hC; cases hC)
  exact ⟨fun b o e => hs'.extBut b o (fun q => by rw [q, hCs] at e; cases e) (hk.sub b o e), hk.same.trans ⟨rfl, rfl⟩⟩

/-- the same, stored at once (the comprehension and its target on one line) -/
theorem ex_assign_comp {Q : Out → Vars → Mem → Prop} {y : Str} {py spos : Pos} (src : Src c k env ρ μ iter ds) (tests : ∀ C cl d, d ∈ ds → Tests c k (cenvOf scope env C cl) ((x, d) :: capt scope ρ) ifs (p d))
    (elts : ∀ C cl d, d ∈ ds → p d = true → Ev c k (cenvOf scope env C cl) ((x, d) :: capt scope ρ) [] elt (f d)) (hlen : ds.length ≤ 16777216)
    (h : Q .next ((y, .list ((ds.filter p).map f)) :: ρ) μ)
    (hsw : swapsWith (.ListComp elt [⟨.Name x px, iter, ifs, 0⟩] scope pos) (some (.Name y py)) spos.line env = pure true := by rfl) (hy : stor env y = true := by rfl)
    (ok : compOk scope env x = true := by rfl) (hs : ∀ x, foldedSetIterable iter env x = pure x := by intro _; rfl) :
    Ex1 c k env ρ μ (.Assign [.Name y py] (.ListComp elt [⟨.Name x px, iter, ifs, 0⟩] scope pos) spos) Q := by
  intro X₀ A s E hA S
  have R := S.rc
  have ok' := CompOk.of ok
  obtain ⟨cl, hclos, hcl1, hcl2⟩ := closureFor_free R.ok.has ok'.free
  rw [exec_Assign_Name_used _ _ _ _ hsw]
  refine wpAny_bind (wpAny_standAt (wpAny_bind ?_))
  show wpAny _ A (do let _ ← comprehension (.ListComp elt [⟨.Name x px, iter, ifs, 0⟩] scope pos) scope env _ (newList []) false (eval iter env) (some (assign (.Name y py) env))) _ _ s
  refine wpAny_bind (wpAny_mono (wpAny_comprehension_free (use := some (assign (.Name y py) env)) (Q := fun _ s' => Post c X₀ env μ s Q .next s') rfl hs hclos ok'.kind ok'.names
    (wpAny_mono (src _ A s E hA R) (fun xv s₁ h₁ => wpAny_mono h₁ (fun it s₂ h₂ => ?_) fun _ _ e => e) fun _ _ e => e)) (fun _ s' hq => wpAny_pure (wpAny_pure hq)) fun _ _ e => e)
  obtain ⟨I, fp, wr, P, W, rfl, O⟩ := h₂
  refine comp_core (RR := fun acc C => compPost (model c.prog c.w) A E (some (assign (.Name y py) env)) (fun _ s' => Post c X₀ env μ s Q .next s') acc C) hA R O ok' hlen hcl1 hcl2 tests elts ?_
  rintro D C s' hD hC hDC ⟨m, hn⟩ hr hk
  have hCs : s.heap.get? C = none := by
    refine none_of fun o e => ?_
    first | exact (no1 (O.kp.sub C o e) hC).elim | exact (no1 hC (O.kp.sub C o e)).elim | (rw [O.kp.sub C o e] at hC; cases hC)
  have hCM : ¬ Mut env μ C := fun q => by obtain ⟨o, e⟩ := S.live' q; first | exact (no1 (hCs) e).elim | exact (no1 e (hCs)).elim | (rw [hCs] at e; cases e)
  have hCX : ¬ X₀ C := fun q => by obtain ⟨o, e⟩ := S.live C q; first | exact (no1 (hCs) e).elim | exact (no1 e (hCs)).elim | (rw [hCs] at e; cases e)
  have hCb : c.base.get? C = none := by
    refine none_of fun o e => ?_
    first | exact (no1 (S.base C o e) hCs).elim | exact (no1 hCs (S.base C o e)).elim | (rw [S.base C o e] at hCs; cases hCs)
  show wpAny _ A (assign (.Name y py) env (.ref D)) _ _ _
  have S' : St c (fun a => X₀ a ∨ a ∈ [C]) env ρ μ s' := S.addX hk (fun b hb => by simp at hb; subst hb; exact hCs) (fun b hb => by simp at hb; subst hb; obtain ⟨o, _, _, e, _⟩ := hn; exact ⟨o, e⟩)
  refine wpAny_assign_Name (st_store S' hy (hr.mono fun a o n e => ⟨?_, e⟩) fun s₃ S₃ g₃ => ?_)
  · rintro ((q | q) | q)
    · exact n (.inl (.inl q))
    · simp at q; exact n (.inr q)
    · exact n (.inl (.inr q))
  · refine ⟨m, ?_, fun h' hs' => ?_⟩
    · obtain ⟨o, es, ep, e, r⟩ := hn
      exact ⟨o, es, ep, g₃.keep C o hCM e, r⟩
    · have kk : ∀ b o, b ∉ [C] → s₃.heap.get? b = some o → ({ s₃ with heap := h' } : Shared).heap.get? b = some o := fun b o w e => hs'.extBut b o (by simpa using w) e
      refine ⟨.next, _, μ, trivial, S₃.dropX kk (fun b hb => by simp at hb; subst hb; exact hCX) (fun b hb => by simp at hb; subst hb; exact hCM) (fun b hb => by simp at hb; subst hb; exact hCb), ?_, h⟩
      have g := (Go.of_kp (env := env) (μ := μ) hk).trans g₃
      have nC : ∀ b o, s.heap.get? b = some o → b ∉ [C] := fun b o e q => by simp at q; rw [q, hCs] at e; cases e
      refine ⟨g.same.trans ⟨rfl, rfl⟩, fun a o n e => kk a o (nC a o e) (g.keep a o n e), fun a o e => ?_, g.grow⟩
      · obtain ⟨o', e'⟩ := g.alive a o e
        exact ⟨o', kk a o' (nC a o e) e'⟩
end
end Mine
end

/-! # M6 -/
section
set_option autoImplicit false
namespace Mine
open PySem PySem.Calls PyProof.Rows

def paramsOf : Stmt → Arguments
  | .FunctionDef _ args _ _ _ _ _ _ _ _ => args
  | _ => default
def bodyOf : Stmt → List Stmt
  | .FunctionDef _ _ body _ _ _ _ _ _ _ => body
  | _ => []
def scopeOf : Stmt → Scope
  | .FunctionDef _ _ _ _ _ _ scope _ _ _ => scope
  | _ => default
def namesOf (st : Stmt) : List Str := (paramsOf st).args.map (·.arg)

def fnD (st : Stmt) (nm qn : Str) (doc pm : Value) (an : Option Addr) (cdv ct : Value) : FuncData :=
  { name := nm, qualname := qn, params := paramsOf st, body := .stmts (bodyOf st), scope := scopeOf st, globals := mainGlobals, closure := [], defaults := .none, kwdefaults := .none, doc := doc, pyModule := pm, annotations := an, code := cdv, closureTuple := ct, builtins := builtinsNs }

/-- the def st stands at f -/
def FnAt (c : Cx) (f : Addr) (st : Stmt) : Prop :=
  ∃ o nm qn doc pm an cdv ct, c.base.get? f = some o ∧ o.data = .func (fnD st nm qn doc pm an cdv ct) ∧ c.base.CodeRec cdv qn

def fenv (st : Stmt) (qn : Str) (cdv : Value) (L f : Addr) : Env :=
  { scope := scopeOf st, locals := L, globals := mainGlobals, cells := cellsFrom (L + 1) (scopeOf st).names [], qual := qn ++ ".<locals>.", func := some f, code := cdv, frame := some L, builtins := builtinsNs }

def fnOk (st : Stmt) : Bool := ((scopeOf st).kind == .function) && !(scopeOf st).isCoroutine && !(scopeOf st).isGenerator && ((scopeOf st).names.all fun p => p.2 != .free) &&
  ((namesOf st).all fun n => (scopeOf st).names.lookup n == some .local || (scopeOf st).names.lookup n == some .cell)

/-- a call of f with these gives that; the old heap is kept -/
def Fn (c : Cx) (k : Nat) (f : Addr) (ds : List D) (r : D) : Prop :=
  ∀ X A s vs, Room k A → Sub c.base s.heap → (∀ a, X a → ∃ o, s.heap.get? a = some o) → RdAll X s.heap vs ds → Gives c X A (call (.ref f) vs) r s

def Binds (st : Stmt) (n : Nat) : Prop := ∀ nm qn doc pm an cdv ct (vs : List Value), vs.length = n → bindArgs (fnD st nm qn doc pm an cdv ct) ⟨vs, []⟩ = pure ((namesOf st).zip vs)

theorem bindL_eq {kindOf : Str → Option NameKind} {x : Str} (hk : kindOf x = some .local) : ∀ (binds : List (Str × Value)) (m : Str → Option Value), bindL kindOf binds m x = (binds.reverse.lookup x).or (m x)
  | [], m => by simp [bindL]
  | (n, v) :: r, m => by
    rw [bindL, bindL_eq hk r, List.reverse_cons, List.lookup_append]
    cases r.reverse.lookup x with
    | some u => simp
    | none =>
      simp only [Option.none_or]
      by_cases hx : x = n
      · subst hx; rw [if_pos hk]; simp
      · have : (x == n) = false := by simpa using hx
        simp only [List.lookup_cons, this, List.lookup_nil, Option.none_or]
        split
        · simp [hx]
        · rfl
theorem bindC_eq {kindOf : Str → Option NameKind} {x : Str} (hk : kindOf x ≠ some .local) : ∀ (binds : List (Str × Value)) (m : Str → Option Value), bindC kindOf binds m x = (binds.reverse.lookup x).or (m x)
  | [], m => by simp [bindC]
  | (n, v) :: r, m => by
    rw [bindC, bindC_eq hk r, List.reverse_cons, List.lookup_append]
    cases r.reverse.lookup x with
    | some u => simp
    | none =>
      simp only [Option.none_or]
      by_cases hx : x = n
      · subst hx; rw [if_neg hk]; simp
      · have : (x == n) = false := by simpa using hx
        simp only [List.lookup_cons, this, List.lookup_nil, Option.none_or]
        split
        · rfl
        · simp [hx]

def LookRel (X : Addr → Prop) (h : Heap) : Option Value → Option D → Prop
  | some v, some d => Rd X h v d
  | none, none => True
  | _, _ => False
theorem zip_rel {X : Addr → Prop} {h : Heap} {x : Str} : ∀ {names : List Str} {vs : List Value} {ds : List D}, RdAll X h vs ds → LookRel X h ((names.zip vs).reverse.lookup x) ((names.zip ds).reverse.lookup x)
  | [], _, _, _ => by simp [LookRel]
  | _ :: _, _, _, .nil => by simp [LookRel]
  | n :: ns, _, _, .cons (v := v) (vs := vs) (d := d) (ds := ds) a r => by
    rw [List.zip_cons_cons, List.zip_cons_cons, List.reverse_cons, List.reverse_cons, List.lookup_append, List.lookup_append]
    have ih := @zip_rel X h x ns _ _ r
    generalize (ns.zip vs).reverse.lookup x = p at ih
    generalize (ns.zip ds).reverse.lookup x = q at ih
    cases p <;> cases q <;> first | exact ih.elim | skip
    · simp only [Option.none_or, List.lookup_cons, List.lookup_nil]
      cases hm : x == n
      · trivial
      · exact a
    · exact ih
theorem zip_look {X : Addr → Prop} {h : Heap} {x : Str} {d : D} {names : List Str} {vs : List Value} {ds : List D} (r : RdAll X h vs ds) (e : (names.zip ds).reverse.lookup x = some d) : ∃ v, (names.zip vs).reverse.lookup x = some v ∧ Rd X h v d := by
  have q := zip_rel (x := x) (names := names) r
  rw [e] at q
  cases p : (names.zip vs).reverse.lookup x with
  | none => rw [p] at q; exact q.elim
  | some v => rw [p] at q; exact ⟨v, rfl, q⟩

def retOf : Out → D
  | .ret d => d
  | _ => .none

theorem fn_enter {c : Cx} {k : Nat} {f : Addr} {st : Stmt} {ds : List D} (hf : FnAt c f st) (hb : Binds st ds.length) (ok : fnOk st = true) {X : Addr → Prop} {A : Around} {s : Shared} {vs : List Value} {R : Result → Shared → Prop}
    (hA : Room (k + 1) A) (hbase : Sub c.base s.heap) (hlive : ∀ a, X a → ∃ o, s.heap.get? a = some o) (hvs : RdAll X s.heap vs ds)
    (h : ∀ qn cdv L s₁, St c X (fenv st qn cdv L f) ((namesOf st).zip ds).reverse [] s₁ → Kp s s₁ → (∀ a, Mut (fenv st qn cdv L f) [] a → s.heap.get? a = none) → Room k (A.deeper (fenv st qn cdv L f)) →
      wpAny (model c.prog c.w) (A.deeper (fenv st qn cdv L f)) (execs (bodyOf st) (fenv st qn cdv L f)) (fun fl s' => R (.ok (.ret (match fl with | .ret v => v | _ => .none))) s')
        (fun e s' => wpAny (model c.prog c.w) (A.deeper (fenv st qn cdv L f)) (leaving (fenv st qn cdv L f) e) (fun _ s'' => R (.error e) s'') (fun e' s'' => R (.error e') s'') s') s₁) :
    codeAny (model c.prog c.w) A (.call (.ref f) ⟨vs, []⟩) R s := by
  obtain ⟨o, nm, qn, doc, pm, an, cdv, ct, ho, hd, hcd⟩ := hf
  unfold fnOk at ok
  simp only [Bool.and_eq_true, beq_iff_eq, Bool.not_eq_true', List.all_eq_true, Bool.or_eq_true, bne_iff_ne] at ok
  obtain ⟨⟨⟨⟨k1, k2⟩, k3⟩, k4⟩, k5⟩ := ok
  have hlen := hvs.length
  have hsize : ∀ a : Nat, s.heap.objs.size ≤ a → s.heap.get? a = none := fun a ha => by
    refine none_of fun o e => ?_
    exact absurd (Heap.lt_size e) (Nat.not_lt.mpr ha)
  refine codeAny_call_cells (binds := (namesOf st).zip vs) (body := bodyOf st) (by have := hA.depth; omega) (hbase f o ho) hd (c.nolimit.keeps hbase) (hcd.keeps hbase) rfl (hb nm qn doc pm an cdv ct vs hlen) rfl (fun x hx => ?_) (fun s₁ I => ?_) k2 k3 k1
  · have hm : x.1 ∈ namesOf st := (List.of_mem_zip (a := x.1) (b := x.2) hx).1
    rcases k5 x.1 hm with q | q
    · exact .inl q
    · obtain ⟨a, ha⟩ := cf_has (scopeOf st).names (s.heap.objs.size + 1) [] x.1 (.inl (mem_lookup q))
      exact .inr ⟨q, by show ((cellsFrom _ (scopeOf st).names []).lookup x.1).isSome = true; rw [ha]; rfl⟩
  · have he : callEnvC (fnD st nm qn doc pm an cdv ct) s.heap.objs.size f = fenv st qn cdv s.heap.objs.size f := rfl
    rw [he] at I ⊢
    have I' := I.toInCall
    have hk₁ : Sub s.heap s₁.heap := I'.keep
    have newM : ∀ a, Mut (fenv st qn cdv s.heap.objs.size f) [] a → s.heap.get? a = none := fun a m => by
      rcases m with m | ⟨n, m⟩ | ⟨_, m⟩
      · exact hsize a (Nat.le_of_eq (Eq.symm m))
      · exact hsize a (Nat.le_of_lt (I.above n a (mem_of_lookup m)))
      · cases m
    have S₁ : St c X (fenv st qn cdv s.heap.objs.size f) ((namesOf st).zip ds).reverse [] s₁ := by
      refine ⟨⟨k1, rfl, rfl, fun n hn => ?_⟩, hbase.trans hk₁, fun a m => ?_, fun a h => ?_, ⟨_, I'.ns⟩, fun n a e => ⟨_, I.cell n a e⟩, fun n n' a e e' => ?_, fun x d e => ?_, fun a ds m => (nomatch m), List.nodup_nil, fun _ _ m => (nomatch m)⟩
      · rcases hn with q | q
        · exact cf_has _ _ _ _ (.inl (mem_lookup q))
        · exact absurd rfl (k4 _ (mem_lookup q))
      · refine none_of fun o e => ?_
        have := newM a m; first | exact (no1 (hbase a o e) this).elim | exact (no1 this (hbase a o e)).elim | (rw [hbase a o e] at this; cases this)
      · exact (hlive a h).imp fun o e => hk₁ a o e
      · exact name_of_addr I.apart (mem_of_lookup e) (mem_of_lookup e')
      · obtain ⟨v, e1, e2⟩ := zip_look hvs e
        refine ⟨v, ?_, e2.mono fun a o n q => ⟨?_, hk₁ a o q⟩⟩
        · have hx : x ∈ namesOf st := by
            have : (x, v) ∈ ((namesOf st).zip vs).reverse := mem_of_lookup e1
            exact (List.of_mem_zip (List.mem_reverse.mp this)).1
          rcases k5 x hx with q | q
          · exact .inl ⟨q, _, I'.ns, by rw [bindL_eq q, e1]; rfl⟩
          · obtain ⟨a, ha⟩ := cf_has (scopeOf st).names (s.heap.objs.size + 1) [] x (.inl (mem_lookup q))
            refine .inr ⟨.inl q, a, ha, ?_⟩
            have := I.cell x a ha
            have hnl : (fenv st qn cdv s.heap.objs.size f).kindOf x ≠ some .local := by
              show (scopeOf st).names.lookup x ≠ _
              rw [q]; decide
            rw [bindC_eq hnl, e1] at this
            exact this
        · rintro (y | y)
          · exact n y
          · first | exact (no1 (newM a y) q).elim | exact (no1 q (newM a y)).elim | (rw [newM a y] at q; cases q)
    refine h qn cdv s.heap.objs.size s₁ S₁ ⟨hk₁, ?_⟩ newM (hA.deeper _)
    obtain ⟨h1, t1, e1⟩ := I'.same
    exact ⟨by rw [e1], by rw [e1]⟩

/-- what a body's end says to its caller -/
theorem Go.kp_of {env : Env} {s s₁ s₂ : Shared} {μ : Mem} (k : Kp s s₁) (newM : ∀ a, Mut env [] a → s.heap.get? a = none) (g : Go env [] s₁ μ s₂) : Kp s s₂ :=
  ⟨fun b o e => g.keep b o (fun m => by first | exact (no1 (newM b m) e).elim | exact (no1 e (newM b m)).elim | (rw [newM b m] at e; cases e)) (k.sub b o e), k.same.trans g.same⟩

theorem fn_of {c : Cx} {k : Nat} {f : Addr} {st : Stmt} {ds : List D} {r : D} (hf : FnAt c f st) (hb : Binds st ds.length)
    (h : ∀ qn cdv L, Ex c k (fenv st qn cdv L f) ((namesOf st).zip ds).reverse [] (bodyOf st) (fun o _ _ => retOf o = r)) (ok : fnOk st = true := by rfl) : Fn c (k + 1) f ds r := by
  intro X A s vs hA hbase hlive hvs E
  refine wpAny_call (fn_enter hf hb ok hA hbase hlive hvs fun qn cdv L s₁ S₁ k₁ newM hA' => ?_)
  refine wpAny_mono (h qn cdv L X _ s₁ _ hA' S₁) (fun fl s₂ p => ?_) fun _ _ e => e
  obtain ⟨o', ρ', μ', a, S₂, g, q⟩ := p
  refine ⟨g.kp_of k₁ newM, ?_⟩
  subst q
  cases fl <;> cases o' <;> first | exact a.elim | skip
  · exact .none
  · exact .none
  · exact .none
  · exact Rd.weak a fun _ h => .inl h
end Mine
end

/-! # M7 -/
section
set_option autoImplicit false
namespace Mine
open PySem PySem.Calls PyProof.Rows

/-! ## arguments and calls -/
def notStar : Expr → Bool
  | .Starred .. => false
  | _ => true
theorem starEach_cons {e : Expr} {rest : List Expr} {env : Env} (h : notStar e = true) : starEach (e :: rest) env = (false, eval e env) :: starEach rest env := by
  cases e <;> first | rfl | cases h

section
variable {c : Cx} {k : Nat} {env : Env} {ρ : Vars} {μ : Mem}

inductive EvAll (c : Cx) (k : Nat) (env : Env) (ρ : Vars) (μ : Mem) : List Expr → List D → Prop
  | nil : EvAll c k env ρ μ [] []
  | cons {e es d ds} : Ev c k env ρ μ e d → EvAll c k env ρ μ es ds → notStar e = true → EvAll c k env ρ μ (e :: es) (d :: ds)

theorem evAll_plain {args : List Expr} {ds : List D} (h : EvAll c k env ρ μ args ds) (pos : Pos) : (backTo pos (starEach args env)).any (·.1) = false := by
  induction h with
  | nil => rfl
  | cons _ _ hs ih => rw [starEach_cons hs]; simpa [backTo] using ih

theorem evAll {args : List Expr} {ds : List D} (h : EvAll c k env ρ μ args ds) (pos : Pos) : ∀ X A s E, Room k A → Rc c X env ρ μ s →
    wpAny (model c.prog c.w) A (spliced (backTo pos (starEach args env))) (fun vs s' => Kp s s' ∧ RdAll X s'.heap vs ds) E s := by
  induction h with
  | nil => exact fun _ _ s _ _ _ => args_nil ⟨Kp.refl s, .nil⟩
  | cons he _ hs ih =>
    intro X A s E hA R
    refine args_cons (gives_bind (he X A s hA R) fun v s₁ k₁ r₁ => ?_) (starEach_cons hs)
    refine wpAny_mono (ih X A s₁ E hA (R.keep k₁.sub)) (fun vs s₂ q => ⟨k₁.trans q.1, .cons (r₁.keep q.1.sub) q.2⟩) fun _ _ e => e

theorem name_global {x : Str} {px : Pos} {v : Value} {X : Addr → Prop} {A : Around} {s : Shared} {Q : Value → Shared → Prop} {E : Value → Shared → Prop} (R : Rc c X env ρ μ s) (hx : env.kindOf x = some .globalImplicit) (hg : c.mg x = some v)
    (h : Q v s) (hd : (x == ("__debug__" : Str)) = false) : wpAny (model c.prog c.w) A (eval (.Name x px) env) Q E s :=
  Name_function_global R.ok.kind hx (loadGlobal_global (env := env) (by rw [R.ok.globals]; exact c.g.keeps R.base) hg h) hd
theorem name_builtin {x : Str} {px : Pos} {v : Value} {X : Addr → Prop} {A : Around} {s : Shared} {Q : Value → Shared → Prop} {E : Value → Shared → Prop} (R : Rc c X env ρ μ s) (hx : env.kindOf x = some .globalImplicit) (hg : c.mg x = none)
    (hb : bootBuiltins x = some v) (hn : x ≠ "__name__") (h : Q v s) (hd : (x == ("__debug__" : Str)) = false) : wpAny (model c.prog c.w) A (eval (.Name x px) env) Q E s :=
  Name_function_global R.ok.kind hx (loadGlobal_builtin (env := env) (by rw [R.ok.globals]; exact c.g.keeps R.base) hg (by rw [R.ok.builtins]; exact c.b.keeps R.base) ((c.builtins x hn).trans hb) h) hd

theorem callWith_first {f : Value} {first : List Value} {args : List Expr} {ds : List D} {pos : Pos} {X : Addr → Prop} {A : Around} {s : Shared} {Q : Value → Shared → Prop} {E : Value → Shared → Prop} (R : Rc c X env ρ μ s) (hA : Room k A) (ha : EvAll c k env ρ μ args ds)
    (hk : ∀ s', Kp s s' → ∃ kk, (kk = Keeper.frame ∨ kk = Keeper.machine) ∧ ∀ (Q' : Keeper → Shared → Prop), Q' kk s' → wpAny (model c.prog c.w) A (keeperOf f) Q' E s') (hne : args ≠ [])
    (h : ∀ vs s', Kp s s' → RdAll X s'.heap vs ds → wpAny (model c.prog c.w) A (call f (first ++ vs)) Q E s') : wpAny (model c.prog c.w) A (callWith pos f first (backTo pos (starEach args env)) []) Q E s := by
  have hpl := evAll_plain ha pos
  have hev := evAll ha pos X A s E hA R
  unfold callWith
  have hargs : wpAny (model c.prog c.w) A (evalArgs f true (backTo pos (starEach args env)) []) (fun a s' => a.kw = [] ∧ Kp s s' ∧ RdAll X s'.heap a.pos ds) E s := by
    cases ha with
    | nil => exact absurd rfl hne
    | cons he hr hs =>
      rw [starEach_cons hs] at hev ⊢
      exact evalArgs_plain (wpAny_mono hev (fun vs s' q => ⟨rfl, q.1, q.2⟩) fun _ _ e => e)
  refine wpAny_bind (wpAny_holding (wpAny_mono hargs (fun a s₁ h₁ => wpAny_bind (wpAny_standAt ?_)) fun _ _ x => x))
  obtain ⟨pos', kw⟩ := a
  obtain ⟨rfl, k₁, r₁⟩ := h₁
  simp only [hpl, List.any_nil, Bool.or_false]
  obtain ⟨kk, hkk, hq⟩ := hk s₁ k₁
  refine wpAny_bind (hq _ ?_)
  have hc := h pos' s₁ k₁ r₁
  have tail : ∀ {t : Sem Value}, wpAny (model c.prog c.w) A t Q E s₁ → wpAny (model c.prog c.w) A (t >>= fun r => holding [r] point >>= fun _ => pure r) Q E s₁ :=
    fun ht => wpAny_bind (wpAny_mono ht (fun r s₂ hr => wpAny_bind (wpAny_holding (wpAny_point (wpAny_pure hr)))) fun _ _ x => x)
  rcases hkk with rfl | rfl
  · dsimp only
    split
    · exact tail hc
    · exact tail (by unfold callMarked; exact wpAny_keep hc)
  · exact tail hc

theorem callWith_plain {f : Value} {args : List Expr} {ds : List D} {pos : Pos} {X : Addr → Prop} {A : Around} {s : Shared} {Q : Value → Shared → Prop} {E : Value → Shared → Prop} (R : Rc c X env ρ μ s) (hA : Room k A) (ha : EvAll c k env ρ μ args ds)
    (hk : ∀ s', Kp s s' → ∃ kk, (kk = Keeper.frame ∨ kk = Keeper.machine) ∧ ∀ (Q' : Keeper → Shared → Prop), Q' kk s' → wpAny (model c.prog c.w) A (keeperOf f) Q' E s') (hne : args ≠ [])
    (h : ∀ vs s', Kp s s' → RdAll X s'.heap vs ds → wpAny (model c.prog c.w) A (call f vs) Q E s') : wpAny (model c.prog c.w) A (callWith pos f [] (backTo pos (starEach args env)) []) Q E s :=
  callWith_first (first := []) R hA ha hk hne h

/-- a call of a def of the text -/
theorem ev_call {x : Str} {px pos : Pos} {f : Addr} {st : Stmt} {args : List Expr} {ds : List D} {r : D} (hg : c.mg x = some (.ref f)) (hf : FnAt c f st) (ha : EvAll c k env ρ μ args ds) (hF : Fn c k f ds r) (hne : args ≠ [] := by intro h; cases h)
    (hx : env.kindOf x = some .globalImplicit := by rfl) (hd : (x == ("__debug__" : Str)) = false := by decide) : Ev c k env ρ μ (.Call (.Name x px) args [] pos) r := by
  intro X A s hA R E
  refine Call_ (name_global R hx hg ?_ hd)
  obtain ⟨o, nm, qn, doc, pm, an, cdv, ct, ho, hd', hcd⟩ := hf
  refine callWith_plain R hA ha (fun s' k' => ⟨.frame, .inl rfl, fun Q' hq => ?_⟩) hne fun vs s₁ k₁ r₁ => ?_
  · unfold keeperOf
    refine wpAny_bind (wpAny_load (k'.sub _ _ (R.base _ _ ho)) ?_)
    rw [hd']; exact wpAny_pure hq
  · have R₁ := R.keep k₁.sub
    exact gives_after (hF X A s₁ vs hA R₁.base R₁.live r₁) k₁

theorem ev_callB {x : Str} {px pos : Pos} {id : String} {args : List Expr} {ds : List D} {r : D} (hg : c.mg x = none) (hb : bootBuiltins x = some (.builtin id)) (ha : EvAll c k env ρ μ args ds)
    (hF : ∀ X A s vs, Room k A → (∀ a, X a → ∃ o, s.heap.get? a = some o) → RdAll X s.heap vs ds → Gives c X A (call (.builtin id) vs) r s) (hn : x ≠ "__name__" := by decide) (hne : args ≠ [] := by intro h; cases h)
    (hx : env.kindOf x = some .globalImplicit := by rfl) (hd : (x == ("__debug__" : Str)) = false := by decide) : Ev c k env ρ μ (.Call (.Name x px) args [] pos) r := by
  intro X A s hA R E
  refine Call_ (name_builtin R hx hg hb hn ?_ hd)
  refine callWith_plain R hA ha (fun s' k' => ⟨.machine, .inr rfl, fun Q' hq => wpAny_pure hq⟩) hne fun vs s₁ k₁ r₁ => ?_
  exact gives_after (hF X A s₁ vs hA (R.keep k₁.sub).live r₁) k₁
theorem ev_callT {x : Str} {px pos : Pos} {id : String} {args : List Expr} {ds : List D} {r : D} (hg : c.mg x = none) (hb : bootBuiltins x = some (.type id)) (ha : EvAll c k env ρ μ args ds)
    (hF : ∀ X A s vs, Room k A → (∀ a, X a → ∃ o, s.heap.get? a = some o) → RdAll X s.heap vs ds → Gives c X A (call (.type id) vs) r s) (hn : x ≠ "__name__" := by decide) (hne : args ≠ [] := by intro h; cases h)
    (hx : env.kindOf x = some .globalImplicit := by rfl) (hd : (x == ("__debug__" : Str)) = false := by decide) : Ev c k env ρ μ (.Call (.Name x px) args [] pos) r := by
  intro X A s hA R E
  refine Call_ (name_builtin R hx hg hb hn ?_ hd)
  refine callWith_plain R hA ha (fun s' k' => ⟨.machine, .inr rfl, fun Q' hq => wpAny_pure hq⟩) hne fun vs s₁ k₁ r₁ => ?_
  exact gives_after (hF X A s₁ vs hA (R.keep k₁.sub).live r₁) k₁

theorem new_notX {X : Addr → Prop} {s : Shared} (hl : ∀ a, X a → ∃ o, s.heap.get? a = some o) : ¬ X s.heap.objs.size := fun h => by
  obtain ⟨o, e⟩ := hl _ h
  exact Nat.lt_irrefl _ (Heap.lt_size e)

/-- len of a list -/
theorem ev_len {x : Str} {px pos : Pos} {e : Expr} {ds : List D} (hg : c.mg x = none) (hb : bootBuiltins x = some (.builtin "len")) (he : Ev c k env ρ μ e (.list ds)) (hlen : ds.length ≤ 16777216) (hs : notStar e = true := by rfl) (hn : x ≠ "__name__" := by decide)
    (hx : env.kindOf x = some .globalImplicit := by rfl) (hd : (x == ("__debug__" : Str)) = false := by decide) : Ev c k env ρ μ (.Call (.Name x px) [e] [] pos) (.int ds.length) :=
  ev_callB hg hb (.cons he .nil hs) (fun X A s vs hA _ r E => by
    cases r with
    | cons r1 r2 =>
      cases r2
      cases r1 with
      | list hX ho hc hd hr =>
        rename_i a o vs n
        have hl : vs.size = ds.length := by have := hr.length; simpa using this
        refine call_len_list ⟨o, ho, hc, n, hd⟩ (by rw [hl]; omega) ⟨Kp.tok s _, ?_⟩
        rw [hl]; exact .int _ _) hn (by intro h; cases h) hx hd

/-- list(xs) of a list -/
theorem ev_listOf {x : Str} {px pos : Pos} {e : Expr} {ds : List D} (hg : c.mg x = none) (hb : bootBuiltins x = some (.type "list")) (he : Ev c k env ρ μ e (.list ds)) (hlen : ds.length ≤ 16777216) (hs : notStar e = true := by rfl) (hn : x ≠ "__name__" := by decide)
    (hx : env.kindOf x = some .globalImplicit := by rfl) (hd : (x == ("__debug__" : Str)) = false := by decide) : Ev c k env ρ μ (.Call (.Name x px) [e] [] pos) (.list ds) :=
  ev_callT hg hb (.cons he .nil hs) (fun X A s vs hA hl r E => by
    cases r with
    | cons r1 r2 =>
      cases r2
      cases r1 with
      | list hX ho hc hd hr =>
        rename_i a o vs n
        have hlv : vs.size = ds.length := by have := hr.length; simpa using this
        refine call_list_seq (hsz := by rw [hlv, sizeLine_eq]; exact hlen) a (.inl rfl) ho hc hd fun h' c' hk hD => ⟨Kp.heap s h' s.toks hk, ?_⟩
        exact .list (new_notX hl) hD rfl rfl (hr.keep hk)) hn (by intro h; cases h) hx hd

/-- a display -/
theorem ev_list {args : List Expr} {ds : List D} {pos : Pos} (ha : EvAll c k env ρ μ args ds) (hlen : ds.length ≤ 16777216) : Ev c k env ρ μ (.List args pos) (.list ds) := by
  intro X A s hA R E
  refine List_ (wpAny_mono (evAll ha pos X A s E hA R) (fun vs s₁ q => ?_) fun _ _ e => e)
  have hv := q.2.length
  refine wpAny_newObj_type ⟨q.1.trans (Kp.push s₁ _ _), ?_⟩ (by show vs.toArray.size ≤ sizeLine; rw [List.size_toArray, hv, sizeLine_eq]; exact hlen)
  exact .list (new_notX (R.keep q.1.sub).live) (Heap.get?_push_size _ rfl) rfl rfl (by simpa using q.2.keep fun _ _ e => Heap.get?_push_of_some _ e)
theorem ev_tuple {args : List Expr} {ds : List D} {kk : Nat} {pos : Pos} (ha : EvAll c k env ρ μ args ds) (hlen : ds.length ≤ 16777216) : Ev c k env ρ μ (.Tuple args kk pos) (.tuple ds) := by
  intro X A s hA R E
  refine Tuple_ (wpAny_mono (evAll ha pos X A s E hA R) (fun vs s₁ q => ?_) fun _ _ e => e)
  have hv := q.2.length
  refine wpAny_newObj_type ⟨q.1.trans (Kp.push s₁ _ _), ?_⟩ (by show vs.toArray.size ≤ sizeLine; rw [List.size_toArray, hv, sizeLine_eq]; exact hlen)
  exact .tuple (new_notX (R.keep q.1.sub).live) (Heap.get?_push_size _ rfl) rfl rfl (by simpa using q.2.keep fun _ _ e => Heap.get?_push_of_some _ e)
end
end Mine
end

/-! # M8 -/
section
set_option autoImplicit false
namespace Mine
open PySem PySem.Calls PyProof.Rows

/-! ## data as the kit reads it -/
mutual
def toPy : D → PyData
  | .none => .none
  | .bool b => .bool b
  | .int i => .int i
  | .str x => .str x
  | .tuple ds => .tuple (toPys ds)
  | .list ds => .list (toPys ds)
  | .raw _ => .none
  | .inst _ _ _ => .none
def toPys : List D → List PyData
  | [] => []
  | d :: ds => toPy d :: toPys ds
end
mutual
def noRaw : D → Bool
  | .tuple ds => noRaws ds
  | .list ds => noRaws ds
  | .raw _ => false
  | .inst _ _ _ => false
  | _ => true
def noRaws : List D → Bool
  | [] => true
  | d :: ds => noRaw d && noRaws ds
end
theorem Rd.reads {X : Addr → Prop} {h : Heap} {v : Value} {d : D} (r : Rd X h v d) : noRaw d = true → ∃ as, Reads h v (toPy d) as :=
  Rd.rec (motive_1 := fun v d _ => noRaw d = true → ∃ as, Reads h v (toPy d) as) (motive_2 := fun vs ds _ => noRaws ds = true → ∃ as, ReadsAll h vs (toPys ds) as) (fun _ => ⟨_, .none⟩) (fun b _ => ⟨_, .bool b⟩) (fun i t _ => ⟨_, .int i t⟩) (fun x t _ => ⟨_, .str x t⟩) (fun _ hn => nomatch hn)
    (fun _ h1 h2 h3 _ ih hn => let ⟨_, q⟩ := ih hn; ⟨_, .list h1 h2 h3 q⟩) (fun _ h1 h2 h3 _ ih hn => let ⟨_, q⟩ := ih hn; ⟨_, .tuple h1 h2 h3 q⟩) (fun _ _ _ _ _ _ _ _ _ _ hn => nomatch hn) (fun _ => ⟨_, .nil⟩)
    (fun _ _ ih1 ih2 hn => let ⟨_, p⟩ := ih1 (Bool.and_eq_true_iff.mp hn).1; let ⟨_, q⟩ := ih2 (Bool.and_eq_true_iff.mp hn).2; ⟨_, .cons p q⟩) r

/-- a kind of data told by plain data of Lean -/
structure Enc {α : Type} [DecidableEq α] (f : α → D) (n : Nat) : Prop where
  eq : ∀ a b, PyData.eqv (toPy (f a)) (toPy (f b)) = decide (a = b)
  raw : ∀ a, noRaw (f a) = true
  lay : ∀ a, (toPy (f a)).canLay0 = true
  depth : ∀ a, (toPy (f a)).depth ≤ n

theorem enc_int : Enc D.int 0 where
  eq := fun a b => by simp only [toPy, PyData.eqv]; exact Bool.beq_eq_decide_eq a b
  raw := fun _ => rfl
  lay := fun _ => by simp [toPy, PyData.canLay0]
  depth := fun _ => by simp [toPy, PyData.depth]

theorem noRaws_map {α : Type} {f : α → D} (h : ∀ a, noRaw (f a) = true) : ∀ l : List α, noRaws (l.map f) = true
  | [] => rfl
  | a :: l => by simp [noRaws, h a, noRaws_map h l]
theorem lay_map {α : Type} {f : α → D} (h : ∀ a, (toPy (f a)).canLay0 = true) : ∀ l : List α, PyData.canLayAll0 (toPys (l.map f)) = true
  | [] => by simp [toPys, PyData.canLayAll0]
  | a :: l => by simp [toPys, PyData.canLayAll0, h a, lay_map h l]
theorem depth_map {α : Type} {f : α → D} {n : Nat} (h : ∀ a, (toPy (f a)).depth ≤ n) : ∀ l : List α, PyData.depthAll (toPys (l.map f)) ≤ n
  | [] => by simp [toPys, PyData.depthAll]
  | a :: l => by have := h a; have := depth_map h l; simp only [List.map_cons, toPys, PyData.depthAll]; lia
theorem eqv_map {α : Type} [DecidableEq α] {f : α → D} (h : ∀ a b, PyData.eqv (toPy (f a)) (toPy (f b)) = decide (a = b)) : ∀ l m : List α, PyData.eqvAll (toPys (l.map f)) (toPys (m.map f)) = decide (l = m)
  | [], [] => by simp [toPys, PyData.eqvAll]
  | [], _ :: _ => by simp [toPys, PyData.eqvAll]
  | _ :: _, [] => by simp [toPys, PyData.eqvAll]
  | a :: l, b :: m => by
    simp only [List.map_cons, toPys, PyData.eqvAll, h a b, eqv_map h l m]
    by_cases h1 : a = b <;> by_cases h2 : l = m <;> simp [h1, h2]

theorem enc_list {α : Type} [DecidableEq α] {f : α → D} {n : Nat} (h : Enc f n) : Enc (fun l : List α => D.list (l.map f)) (n + 1) where
  eq := fun a b => by simp only [toPy, PyData.eqv]; exact eqv_map h.eq a b
  raw := fun a => by simp only [noRaw]; exact noRaws_map h.raw a
  lay := fun a => by simp only [toPy, PyData.canLay0]; exact lay_map h.lay a
  depth := fun a => by have := depth_map h.depth a; simp only [toPy, PyData.depth]; lia
theorem enc_pair {α β : Type} [DecidableEq α] [DecidableEq β] {f : α → D} {g : β → D} {n : Nat} (h : Enc f n) (k : Enc g n) : Enc (fun p : α × β => D.tuple [f p.1, g p.2]) (n + 1) where
  eq := fun a b => by
    obtain ⟨a, a'⟩ := a; obtain ⟨b, b'⟩ := b
    simp only [toPy, toPys, PyData.eqv, PyData.eqvAll, h.eq, k.eq, Bool.and_true]
    by_cases h1 : a = b <;> by_cases h2 : a' = b' <;> simp [h1, h2]
  raw := fun a => by simp [noRaw, noRaws, h.raw, k.raw]
  lay := fun a => by simp [toPy, toPys, PyData.canLay0, PyData.canLayAll0, h.lay, k.lay]
  depth := fun a => by have := h.depth a.1; have := k.depth a.2; simp only [toPy, toPys, PyData.depth, PyData.depthAll]; lia

/-- a list of ints -/
abbrev I (l : List Int) : D := .list (l.map .int)
theorem enc_I : Enc I 1 := enc_list enc_int
section
variable {c : Cx} {k : Nat} {env : Env} {ρ : Vars} {μ : Mem}

theorem cmp_Eq {α : Type} [DecidableEq α] {f : α → D} {n : Nat} (F : Enc f n) (hn : n ≤ 60) {a b : α} {X : Addr → Prop} {A : Around} {s : Shared} {v u : Value} (hA : Room k A) (h1 : Rd X s.heap v (f a)) (h2 : Rd X s.heap u (f b)) : Gives c X A (compareOp .Eq v u) (.bool (decide (a = b))) s := fun E => by
  obtain ⟨as, p⟩ := h1.reads (F.raw a)
  obtain ⟨bs, q⟩ := h2.reads (F.raw b)
  refine eq_dataH p q ?_ ?_ (by have := hA.units; lia) ?_
  · unfold SeqAt.shaped; rw [F.lay, Bool.true_and]; exact decide_eq_true (Nat.le_trans (F.depth a) (by lia))
  · unfold SeqAt.shaped; rw [F.lay, Bool.true_and]; exact decide_eq_true (Nat.le_trans (F.depth b) (by lia))
  · rw [F.eq]; exact ⟨Kp.refl s, .bool _⟩
theorem cmp_Ne {α : Type} [DecidableEq α] {f : α → D} {n : Nat} (F : Enc f n) (hn : n ≤ 60) {a b : α} {X : Addr → Prop} {A : Around} {s : Shared} {v u : Value} (hA : Room k A) (h1 : Rd X s.heap v (f a)) (h2 : Rd X s.heap u (f b)) : Gives c X A (compareOp .NotEq v u) (.bool (!decide (a = b))) s := fun E => by
  obtain ⟨as, p⟩ := h1.reads (F.raw a)
  obtain ⟨bs, q⟩ := h2.reads (F.raw b)
  refine ne_dataH p q ?_ ?_ (by have := hA.units; lia) ?_
  · unfold SeqAt.shaped; rw [F.lay, Bool.true_and]; exact decide_eq_true (Nat.le_trans (F.depth a) (by lia))
  · unfold SeqAt.shaped; rw [F.lay, Bool.true_and]; exact decide_eq_true (Nat.le_trans (F.depth b) (by lia))
  · rw [F.eq]; exact ⟨Kp.refl s, .bool _⟩
theorem any_map {α : Type} [DecidableEq α] {f : α → D} (h : ∀ a b, PyData.eqv (toPy (f a)) (toPy (f b)) = decide (a = b)) (d : α) : ∀ l : List α, ((toPys (l.map f)).any fun y => PyData.eqv y (toPy (f d))) = decide (d ∈ l)
  | [] => by simp [toPys]
  | a :: l => by
    simp only [List.map_cons, toPys, List.any_cons, h, any_map h d l, List.mem_cons]
    by_cases h1 : a = d
    · simp [h1]
    · have h2 : ¬ d = a := fun e => h1 e.symm
      simp [h1, h2]
theorem cmp_In {α : Type} [DecidableEq α] {f : α → D} {n : Nat} (F : Enc f n) (hn : n ≤ 60) {a : α} {l : List α} {X : Addr → Prop} {A : Around} {s : Shared} {v u : Value} (hA : Room k A) (h1 : Rd X s.heap v (f a)) (h2 : Rd X s.heap u (.list (l.map f))) : Gives c X A (compareOp .In v u) (.bool (decide (a ∈ l))) s := fun E => by
  obtain ⟨as, p⟩ := h1.reads (F.raw a)
  obtain ⟨bs, q⟩ := h2.reads ((enc_list F).raw l)
  rw [toPy] at q
  refine SeqAt.in_list_reads q p (lay_map F.lay l) (F.lay a) ?_ ?_
  · have h3 := F.depth a; have h4 := Nat.min_le_right (PyData.depthAll (toPys (l.map f))) (toPy (f a)).depth; have := hA.units; lia
  · rw [any_map F.eq]; exact ⟨Kp.refl s, .bool _⟩
theorem cmp_NotIn {α : Type} [DecidableEq α] {f : α → D} {n : Nat} (F : Enc f n) (hn : n ≤ 60) {a : α} {l : List α} {X : Addr → Prop} {A : Around} {s : Shared} {v u : Value} (hA : Room k A) (h1 : Rd X s.heap v (f a)) (h2 : Rd X s.heap u (.list (l.map f))) : Gives c X A (compareOp .NotIn v u) (.bool (!decide (a ∈ l))) s := fun E => by
  obtain ⟨as, p⟩ := h1.reads (F.raw a)
  obtain ⟨bs, q⟩ := h2.reads ((enc_list F).raw l)
  rw [toPy] at q
  refine SeqAt.notIn_list_reads q p (lay_map F.lay l) (F.lay a) ?_ ?_
  · have h3 := F.depth a; have h4 := Nat.min_le_right (PyData.depthAll (toPys (l.map f))) (toPy (f a)).depth; have := hA.units; lia
  · rw [any_map F.eq]; exact ⟨Kp.refl s, .bool _⟩

variable {l r : Expr} {pos : Pos}
theorem cmp_ge {a b : Int} {X : Addr → Prop} {A : Around} {s : Shared} {v u : Value} (h1 : Rd X s.heap v (.int a)) (h2 : Rd X s.heap u (.int b)) : Gives c X A (compareOp .GtE v u) (.bool (decide (b ≤ a))) s := fun E => by
  obtain ⟨_, rfl⟩ := rd_int h1; obtain ⟨_, rfl⟩ := rd_int h2; exact PyProof.Rows.ge_int ⟨Kp.refl s, .bool _⟩

theorem ev_mul {a b : Int} (ha : Ev c k env ρ μ l (.int a)) (hb : Ev c k env ρ μ r (.int b)) (hm : IntMulOk a b) : Ev c k env ρ μ (.BinOp l .Mult r pos) (.int (a * b)) :=
  ev_bin ha hb fun X A s v u _ h1 h2 _ E => by obtain ⟨_, rfl⟩ := rd_int h1; obtain ⟨_, rfl⟩ := rd_int h2; exact PyProof.Rows.mul_int ⟨Kp.tok s _, .int _ _⟩ hm
theorem ev_fdiv {a b : Int} (ha : Ev c k env ρ μ l (.int a)) (hb : Ev c k env ρ μ r (.int b)) (h0 : b ≠ 0) (hs : b.natAbs < 1073741824) : Ev c k env ρ μ (.BinOp l .FloorDiv r pos) (.int (a.fdiv b)) :=
  ev_bin ha hb fun X A s v u _ h1 h2 _ E => by obtain ⟨_, rfl⟩ := rd_int h1; obtain ⟨_, rfl⟩ := rd_int h2; exact PyProof.Rows.floordiv_int h0 ⟨Kp.tok s _, .int _ _⟩ (.inl (PyProof.noPylong_small hs))
theorem ev_catL {xs ys : List D} (ha : Ev c k env ρ μ l (.list xs)) (hb : Ev c k env ρ μ r (.list ys)) (hlen : xs.length + ys.length ≤ 16777216) : Ev c k env ρ μ (.BinOp l .Add r pos) (.list (xs ++ ys)) :=
  ev_bin ha hb fun X A s v u _ r1 r2 hl E => by
    cases r1 with
    | list hX ho hc hd hr =>
      rename_i a o vs n
      cases r2 with
      | list hX2 ho2 hc2 hd2 hr2 =>
        rename_i a2 o2 vs2 n2
        obtain ⟨cls, dd, data, sl⟩ := o
        obtain ⟨cls2, dd2, data2, sl2⟩ := o2
        simp only at hc hd hc2 hd2
        subst hc hd hc2 hd2
        have hv : vs.size = xs.length := by have := hr.length; simpa using this
        have hv2 : vs2.size = ys.length := by have := hr2.length; simpa using this
        refine concat_meets ⟨_, ho, rfl⟩ ⟨_, ho2, rfl⟩ noFill_list_add seq_list_add PySem.F.slot_list_add PySem.F.entry_list_add (PySem.F.args_list_add_2 _ _) (list_addW a a2 vs vs2 n n2 dd dd2 sl sl2 (by rw [hv, hv2, sizeLine_eq]; exact hlen)) ⟨ho, ho2, ?_⟩
        refine ⟨Kp.push s _ _, .list (new_notX hl) (Heap.get?_push_size _ rfl) rfl rfl ?_⟩
        have hk : Sub s.heap (s.heap.push { cls := .type "list", data := .seq (vs ++ vs2) }) := fun _ _ e => Heap.get?_push_of_some _ e
        simpa using (hr.keep hk).append (hr2.keep hk)

/-! ## items -/
theorem ev_item {e i : Expr} {ds : List D} {n : Int} {d : D} (he : Ev c k env ρ μ e (.list ds)) (hi : Ev c k env ρ μ i (.int n)) (h0 : 0 ≤ n) (hd : ds[n.toNat]? = some d) (hlen : ds.length ≤ 16777216)
    (hs : ∀ o v, subscripted i false o v = operate [o, v] (getItem o v) := by intro _ _; with_unfolding_all rfl) : Ev c k env ρ μ (.Subscript e i pos) d := by
  intro X A s hA R E
  refine Subscript_ (gives_bind (he X A s hA R) fun v s₁ k₁ r₁ => gives_bind (hi X A s₁ hA (R.keep k₁.sub)) fun u s₂ k₂ r₂ => ?_)
  cases r₂
  cases r₁.keep k₂.sub with
  | list hX ho hc hd' hr =>
    rename_i a o vs m
    obtain ⟨x, hx, rx⟩ := hr.get hd
    have hlt : n.toNat < ds.length := (List.getElem?_eq_some_iff.mp hd).1
    have hl : s₂.heap.IsList a vs := ⟨o, ho, hc, m, hd'⟩
    exact tail_any hl.typeIs slot_list_getitem.lookup (wpAny_getItem_list hl h0 (by lia) (by simpa using hx) ⟨k₁.trans k₂, rx⟩) (hs _ _)
theorem ev_itemT {e i : Expr} {ds : List D} {n : Int} {d : D} (he : Ev c k env ρ μ e (.tuple ds)) (hi : Ev c k env ρ μ i (.int n)) (h0 : 0 ≤ n) (h1 : n < 2 ^ 62) (hd : ds[n.toNat]? = some d)
    (hs : ∀ o v, subscripted i false o v = operate [o, v] (getItem o v) := by intro _ _; with_unfolding_all rfl) : Ev c k env ρ μ (.Subscript e i pos) d := by
  intro X A s hA R E
  refine Subscript_ (gives_bind (he X A s hA R) fun v s₁ k₁ r₁ => gives_bind (hi X A s₁ hA (R.keep k₁.sub)) fun u s₂ k₂ r₂ => ?_)
  cases r₂
  cases r₁.keep k₂.sub with
  | tuple hX ho hc hd' hr =>
    rename_i a o vs m
    obtain ⟨x, hx, rx⟩ := hr.get hd
    have hlt : n.toNat < ds.length := (List.getElem?_eq_some_iff.mp hd).1
    have hv : vs.toList.length = ds.length := hr.length
    have ht : IsTup s₂.heap a vs.toList.toArray := ⟨o, ho, hc, m, by simpa using hd'⟩
    refine item_tupleT ht (by lia) (by lia) (j := n.toNat) ?_ hx ⟨k₁.trans k₂, rx⟩ (hs _ _)
    rw [hv]; unfold seqIndex?; simp; lia

/-! ## tests -/
theorem tr_plain {e : Expr} {b : Bool} (he : Ev c k env ρ μ e (.bool b)) (hp : ∀ whole, isTrue e env whole = (do let v ← whole; standAt e.pos; holding [v] (truthy v)) := by intro _; rfl) : Tr c k env ρ μ e b := by
  intro X A s E hA R
  refine isTrue_plain (gives_bind (he X A s hA R) fun v s₁ k₁ r₁ => ?_) (hp _)
  cases r₁
  exact wpAny_truthy_bool ⟨k₁, rfl⟩
theorem tr_not {e : Expr} {b : Bool} (he : Tr c k env ρ μ e b) : Tr c k env ρ μ (.UnaryOp .Not e pos) (!b) := by
  intro X A s E hA R
  exact isTrue_not (wpAny_mono (he X A s E hA R) (fun v s₁ q => ⟨q.1, by rw [q.2]⟩) fun _ _ e => e)
theorem tr_and {e : Expr} {es : List Expr} {a b : Bool} (he : Tr c k env ρ μ e a) (hr : a = true → Tr c k env ρ μ (.BoolOp .And es pos) b) (hf : a = false → b = false) : Tr c k env ρ μ (.BoolOp .And (e :: es) pos) b := by
  intro X A s E hA R
  refine isTrue_and (wpAny_mono (he X A s E hA R) (fun v s₁ q => ?_) fun _ _ e => e)
  obtain ⟨k₁, rfl⟩ := q
  cases v with
  | true => exact wpAny_mono (hr rfl X A s₁ E hA (R.keep k₁.sub)) (fun v s₂ q => ⟨k₁.trans q.1, q.2⟩) fun _ _ e => e
  | false => exact ⟨k₁, (hf rfl).symm⟩
theorem tr_and0 : Tr c k env ρ μ (.BoolOp .And [] pos) true := fun _ _ s _ _ _ => isTrue_and_nil ⟨Kp.refl s, rfl⟩
theorem tr_or {e : Expr} {es : List Expr} {a b : Bool} (he : Tr c k env ρ μ e a) (hr : a = false → Tr c k env ρ μ (.BoolOp .Or es pos) b) (hf : a = true → b = true) : Tr c k env ρ μ (.BoolOp .Or (e :: es) pos) b := by
  intro X A s E hA R
  refine isTrue_or (wpAny_mono (he X A s E hA R) (fun v s₁ q => ?_) fun _ _ e => e)
  obtain ⟨k₁, rfl⟩ := q
  cases v with
  | true => exact ⟨k₁, (hf rfl).symm⟩
  | false => exact wpAny_mono (hr rfl X A s₁ E hA (R.keep k₁.sub)) (fun v s₂ q => ⟨k₁.trans q.1, q.2⟩) fun _ _ e => e
theorem tr_or0 : Tr c k env ρ μ (.BoolOp .Or [] pos) false := fun _ _ s _ _ _ => isTrue_or_nil ⟨Kp.refl s, rfl⟩

/-- and, or of bools as values -/
theorem ev_bool1 {op : BoolOp} {e : Expr} {d : D} (he : Ev c k env ρ μ e d) : Ev c k env ρ μ (.BoolOp op [e] pos) d := fun X A s hA R E => BoolOp_one (he X A s hA R E)
theorem ev_and {e e' : Expr} {es : List Expr} {a b : Bool} (he : Ev c k env ρ μ e (.bool a)) (hr : a = true → Ev c k env ρ μ (.BoolOp .And (e' :: es) pos) (.bool b)) (hf : a = false → b = false) : Ev c k env ρ μ (.BoolOp .And (e :: e' :: es) pos) (.bool b) := by
  intro X A s hA R E
  refine BoolOp_and (gives_bind (he X A s hA R) fun v s₁ k₁ r₁ => ?_)
  cases r₁
  refine wpAny_truthy_bool ?_
  cases a with
  | true => exact gives_after (hr rfl X A s₁ hA (R.keep k₁.sub)) k₁
  | false => rw [hf rfl]; exact ⟨k₁, .bool _⟩
theorem ev_or {e e' : Expr} {es : List Expr} {a b : Bool} (he : Ev c k env ρ μ e (.bool a)) (hr : a = false → Ev c k env ρ μ (.BoolOp .Or (e' :: es) pos) (.bool b)) (hf : a = true → b = true) : Ev c k env ρ μ (.BoolOp .Or (e :: e' :: es) pos) (.bool b) := by
  intro X A s hA R E
  refine BoolOp_or (gives_bind (he X A s hA R) fun v s₁ k₁ r₁ => ?_)
  cases r₁
  refine wpAny_truthy_bool ?_
  cases a with
  | true => rw [hf rfl]; exact ⟨k₁, .bool _⟩
  | false => exact gives_after (hr rfl X A s₁ hA (R.keep k₁.sub)) k₁

/-! ## range -/
def upto (n : Int) : List Int := (List.range n.toNat).map fun i : Nat => (i : Int)
theorem mem_upto {n x : Int} : x ∈ upto n ↔ 0 ≤ x ∧ x < n := by
  unfold upto
  simp only [List.mem_map, List.mem_range]
  constructor
  · rintro ⟨i, h, rfl⟩; lia
  · intro h; exact ⟨x.toNat, by lia, by lia⟩
theorem src_range {x : Str} {px pos : Pos} {e : Expr} {n : Int} (hg : c.mg x = none) (hb : bootBuiltins x = some (.type "range")) (he : Ev c k env ρ μ e (.int n)) (h1 : n < 2 ^ 62) (h0 : -(2 ^ 62) ≤ n) (hs : notStar e = true := by rfl) (hn : x ≠ "__name__" := by decide)
    (hx : env.kindOf x = some .globalImplicit := by rfl) (hd : (x == ("__debug__" : Str)) = false := by decide) : Src c k env ρ μ (.Call (.Name x px) [e] [] pos) ((upto n).map .int) := by
  intro X A s E hA R
  refine Call_ (name_builtin R hx hg hb hn ?_ hd)
  refine callWith_plain R hA (.cons he .nil hs) (fun s' k' => ⟨.machine, .inr rfl, fun Q' hq => wpAny_pure hq⟩) (by intro h; cases h) fun vs s₁ k₁ r₁ => ?_
  cases r₁ with
  | cons r1 r2 =>
    cases r2
    cases r1
    refine call_range_1 ?_
    refine wpAny_pyIter_range (IsRange.new ..) (small_one (by decide) (by decide) h0 h1) ?_
    have hsz : Builtin.Range.rangeSize 0 n 1 = (n.toNat : Int) := by rw [rangeSize_one]; split <;> lia
    have hlen : ((upto n).map D.int).length = n.toNat := by simp [upto]
    generalize hH : s₁.heap.push { cls := .type "range", data := .fields #[.int 0 s₁.toks, .int n _, .int 1 (s₁.toks + 1)] } = H
    have hk : Sub s.heap H := fun a o e => hH ▸ Heap.get?_push_of_some _ (k₁.sub a o e)
    have hnew : H.get? H.objs.size = none := by
      refine none_of fun o h => ?_
      exact absurd (Heap.lt_size h) (Nat.lt_irrefl _)
    have hW := Walks.range (prog := c.prog) (w := c.w) hA.handled H.objs.size 0 1 n.toNat
    refine ⟨_, _, _, _, _, rfl, hlen.symm ▸ hW, ?_, ?_, fun b hb => ?_, fun b hb => ?_, fun i h st b hb => ?_, fun i d v hi hv => ?_⟩
    · have e1 : (0 + ((0 : Nat) : Int) * 1) = 0 := by simp
      have e2 : ((((upto n).map D.int).length : Int) - ((0 : Nat) : Int)) = Builtin.Range.rangeSize 0 n 1 := by rw [hsz, hlen]; simp
      rw [e1, e2]
      exact Heap.get?_push_size _ rfl
    · exact ⟨fun a o e => Heap.get?_push_of_some _ (hk a o e), k₁.same.trans ⟨rfl, rfl⟩⟩
    · simp at hb; subst hb
      refine none_of fun o h => ?_
      first | exact (no1 (hk _ _ h) hnew).elim | exact (no1 hnew (hk _ _ h)).elim | (rw [hk _ _ h] at hnew; cases hnew)
    · simp at hb; subst hb
      exact ⟨.inl (by simp), _, Heap.get?_push_size _ rfl⟩
    · simp at hb; subst hb
      exact ⟨_, st⟩
    · obtain ⟨t, rfl⟩ := hv
      simp [upto] at hi
      obtain ⟨w, hw, rfl⟩ := hi
      obtain ⟨_, rfl⟩ := List.getElem?_eq_some_iff.mp hw
      rw [List.getElem_range]
      have : (0 + (i : Int) * 1) = (i : Int) := by lia
      rw [this]; exact .int _ _
end
end Mine
end

/-! # M9 -/
section
set_option autoImplicit false
namespace Mine
open PySem PySem.Calls PyProof.Rows

def scalar : D → Bool
  | .none | .bool _ | .int _ | .str _ => true
  | _ => false
theorem Rd.scalar {X X' : Addr → Prop} {h h' : Heap} {v : Value} {d : D} (r : Rd X h v d) (hs : scalar d = true) : Rd X' h' v d := by
  cases r <;> first | exact .none | exact .bool _ | exact .int _ _ | exact .str _ _ | cases hs
theorem RdAll.scalar {X X' : Addr → Prop} {h h' : Heap} {vs : List Value} {ds : List D} (r : RdAll X h vs ds) (hs : ∀ d ∈ ds, scalar d = true) : RdAll X' h' vs ds := by
  induction vs generalizing ds with
  | nil => cases r; exact .nil
  | cons v vs ih => cases r with | cons a r => exact .cons (a.scalar (hs _ (.head _))) (ih r fun d hd => hs d (.tail _ hd))

/-- an expression that gives a list of its own -/
def EvF (c : Cx) (k : Nat) (env : Env) (ρ : Vars) (μ : Mem) (e : Expr) (ds : List D) : Prop :=
  ∀ X A s E, Room k A → Rc c X env ρ μ s → wpAny (model c.prog c.w) A (eval e env) (fun v s' => Kp s s' ∧ ∃ a vs, v = .ref a ∧ s.heap.get? a = none ∧ PL s'.heap a vs ∧ RdAll (fun b => X b ∨ b = a) s'.heap vs.toList ds) E s

section
variable {c : Cx} {k : Nat} {env : Env} {ρ : Vars} {μ : Mem}

theorem EvF.ev {e : Expr} {ds : List D} (h : EvF c k env ρ μ e ds) : Ev c k env ρ μ e (.list ds) := by
  intro X A s hA R E
  refine wpAny_mono (h X A s E hA R) (fun v s' q => ?_) fun _ _ e => e
  obtain ⟨k', a, vs, rfl, hn, ⟨o, e, hc, hd, n, hdat⟩, hr⟩ := q
  refine ⟨k', .list (fun hx => ?_) e hc hdat (hr.weak fun _ h => .inl h)⟩
  obtain ⟨o, e⟩ := R.live a hx; first | exact (no1 (hn) e).elim | exact (no1 e (hn)).elim | (rw [hn] at e; cases e)

/-- a mutable list of the call's own, new -/
theorem St.addM {X₀ : Addr → Prop} {s s' : Shared} {a : Addr} {ds : List D} {vs : Array Value} (S : St c X₀ env ρ μ s) (k : Kp s s') (n : s.heap.get? a = none) (hl : PL s'.heap a vs) (hr : RdAll (XOf X₀ env ((a, ds) :: μ)) s'.heap vs.toList ds) :
    St c X₀ env ρ ((a, ds) :: μ) s' := by
  have S' := S.kp k
  have k' := k.sub
  have nM : ¬ Mut env μ a := fun m => by obtain ⟨o, e⟩ := S.live' m; first | exact (no1 (n) e).elim | exact (no1 e (n)).elim | (rw [n] at e; cases e)
  have hM : ∀ b, Mut env ((a, ds) :: μ) b → b = a ∨ Mut env μ b := fun b m => by
    rcases m with m | m | ⟨es, m⟩
    · exact .inr (.inl m)
    · exact .inr (.inr (.inl m))
    · rcases List.mem_cons.mp m with q | q
      · cases q; exact .inl rfl
      · exact .inr (.inr (.inr ⟨es, q⟩))
  have hx : ∀ b o, ¬ XOf X₀ env μ b → s.heap.get? b = some o → ¬ XOf X₀ env ((a, ds) :: μ) b ∧ s'.heap.get? b = some o := fun b o q e => by
    refine ⟨?_, k' b o e⟩
    rintro (y | y)
    · exact q (.inl y)
    · rcases hM b y with y | y
      · rw [y, n] at e; cases e
      · exact q (.inr y)
  refine { S' with own := fun b m => ?_, vars := fun x d e => ?_, mem := fun b es m => ?_, nodup := ?_, memX := fun b es m q => ?_ }
  · rcases hM b m with q | q
    · subst q
      refine none_of fun o e => ?_
      first | exact (no1 (S.base b o e) n).elim | exact (no1 n (S.base b o e)).elim | (rw [S.base b o e] at n; cases n)
    · exact S.own b q
  · obtain ⟨v, y, r⟩ := S.vars x d e; exact ⟨v, y.keep k', r.mono hx⟩
  · rcases List.mem_cons.mp m with q | q
    · cases q; exact ⟨vs, hl, hr⟩
    · obtain ⟨us, ⟨o, e, y⟩, r⟩ := S.mem b es q; exact ⟨us, ⟨o, k' b o e, y⟩, r.mono hx⟩
  · rw [List.map_cons, List.nodup_cons]
    refine ⟨fun h => ?_, S.nodup⟩
    obtain ⟨⟨b, es⟩, hm, e⟩ := List.mem_map.mp h
    exact nM (.inr (.inr ⟨es, (show b = a from e) ▸ hm⟩))
  · rcases List.mem_cons.mp m with z | z
    · cases z; obtain ⟨o, e⟩ := S.live _ q; first | exact (no1 (n) e).elim | exact (no1 e (n)).elim | (rw [n] at e; cases e)
    · exact S.memX b es z q

theorem Go.addM {s s' : Shared} {a : Addr} {ds : List D} (k : Kp s s') (n : s.heap.get? a = none) : Go env μ s ((a, ds) :: μ) s' := by
  refine ⟨k.same, fun b o _ q => k.sub b o q, fun b o q => ⟨o, k.sub b o q⟩, fun b es h => ?_⟩
  rcases List.mem_cons.mp h with q | q
  · cases q; exact .inr n
  · exact .inl ⟨es, q⟩

/-- x = a list of its own: it may change from here -/
theorem ex_assignF {Q : Out → Vars → Mem → Prop} {x : Str} {px pos : Pos} {e : Expr} {ds : List D} (he : EvF c k env ρ μ e ds) (h : ∀ a, (∀ es, (a, es) ∉ μ) → Q .next ((x, .raw (.ref a)) :: ρ) ((a, ds) :: μ)) (hx : stor env x = true := by rfl)
    (hs : swapsWith e (some (.Name x px)) pos.line env = pure false := by rfl) : Ex1 c k env ρ μ (.Assign [.Name x px] e pos) Q := by
  intro X₀ A s E hA S
  refine wpAny_Assign_Name (wpAny_mono (he _ A s E hA S.rc) (fun v s₁ q => ?_) fun _ _ e => e) hs
  obtain ⟨k₁, a, vs, rfl, hn, hl, hr⟩ := q
  have S₁ : St c X₀ env ρ ((a, ds) :: μ) s₁ := S.addM k₁ hn hl (hr.weak fun b hb => by
    rcases hb with y | y | y | ⟨es, y⟩
    · exact .inl (.inl y)
    · exact .inl (.inr (.inl y))
    · exact .inl (.inr (.inr (.inl y)))
    · rcases List.mem_cons.mp y with q | q
      · cases q; exact .inr rfl
      · exact .inl (.inr (.inr (.inr ⟨es, q⟩))))
  refine st_store S₁ hx (.raw _) fun s' S' g => ⟨.next, _, _, trivial, S', (Go.addM k₁ hn).trans g, h a fun es m => ?_⟩
  obtain ⟨o, e⟩ := S.live' (.inr (.inr ⟨es, m⟩)); first | exact (no1 (hn) e).elim | exact (no1 e (hn)).elim | (rw [hn] at e; cases e)

theorem evF_nil {pos : Pos} : EvF c k env ρ μ (.List [] pos) [] := by
  intro X A s E hA R
  refine List_ (args_nil ?_)
  refine wpAny_newObj_type ⟨Kp.push s _ _, s.heap.objs.size, #[], rfl, ?_, ⟨_, Heap.get?_push_size _ rfl, rfl, rfl, _, rfl⟩, .nil⟩
  refine none_of fun o e => ?_
  exact absurd (Heap.lt_size e) (Nat.lt_irrefl _)

def setM (μ : Mem) (a : Addr) (ds : List D) : Mem := μ.map fun p => if p.1 = a then (a, ds) else p
theorem setM_keys (μ : Mem) (a : Addr) (ds : List D) : (setM μ a ds).map (·.1) = μ.map (·.1) := by
  unfold setM
  rw [List.map_map]
  refine List.map_congr_left fun p _ => ?_
  simp only [Function.comp]
  split
  · rename_i h; exact h.symm
  · rfl
theorem mem_setM {μ : Mem} {a b : Addr} {ds es : List D} (h : (b, es) ∈ setM μ a ds) : (b = a ∧ es = ds ∧ ∃ es', (b, es') ∈ μ) ∨ (b ≠ a ∧ (b, es) ∈ μ) := by
  obtain ⟨⟨p, q⟩, hm, e⟩ := List.mem_map.mp h
  dsimp only at e
  split at e
  · rename_i hp; cases e; exact .inl ⟨rfl, rfl, q, hp ▸ hm⟩
  · rename_i hp; cases e; exact .inr ⟨hp, hm⟩
/-- a change of one own list -/
theorem St.setM {X₀ : Addr → Prop} {s : Shared} {h' : Heap} {tk : Nat} {a : Addr} {ds es : List D} {vs : Array Value} (S : St c X₀ env ρ μ s) (hm : (a, ds) ∈ μ) (hs : Heap.SameBut a s.heap h') (hl : PL h' a vs) (hr : RdAll (XOf X₀ env μ) h' vs.toList es) :
    St c X₀ env ρ (Mine.setM μ a es) { s with heap := h', toks := tk } := by
  have hMa : Mut env μ a := .inr (.inr ⟨ds, hm⟩)
  have hM : ∀ b, Mut env (Mine.setM μ a es) b ↔ Mut env μ b := fun b => by
    constructor
    · rintro (m | m | ⟨fs, m⟩)
      · exact .inl m
      · exact .inr (.inl m)
      · rcases mem_setM m with ⟨_, _, q⟩ | ⟨_, q⟩
        · exact .inr (.inr q)
        · exact .inr (.inr ⟨_, q⟩)
    · rintro (m | m | ⟨fs, m⟩)
      · exact .inl m
      · exact .inr (.inl m)
      · refine .inr (.inr ?_)
        by_cases q : b = a
        · exact ⟨es, List.mem_map.mpr ⟨(b, fs), m, by simp [q]⟩⟩
        · exact ⟨fs, List.mem_map.mpr ⟨(b, fs), m, by simp [q]⟩⟩
  have hX : ∀ b, XOf X₀ env (Mine.setM μ a es) b ↔ XOf X₀ env μ b := fun b => or_congr Iff.rfl (hM b)
  have hx : ∀ b o, ¬ XOf X₀ env μ b → s.heap.get? b = some o → ¬ XOf X₀ env (Mine.setM μ a es) b ∧ h'.get? b = some o := fun b o q e => ⟨fun y => q ((hX b).mp y), hs.extBut b o (fun z => q (z ▸ .inr hMa)) e⟩
  obtain ⟨vs₀, hl₀, _⟩ := S.mem a ds hm
  have hla := hl₀.isList
  obtain ⟨m, hns⟩ := S.ns
  have hne : a ≠ env.locals := IsList_ne_Ns hla hns
  refine ⟨S.ok, fun b o e => hs.extBut b o (fun z => ?_) (S.base b o e), fun b y => S.own b ((hM b).mp y), fun b y => ?_, ⟨m, hns.sameBut hs hne.symm⟩, fun n b y => ?_, S.apart, fun x d e => ?_, fun b fs y => ?_, ?_, fun b fs y q => ?_⟩
  · have := S.own a hMa; rw [← z, e] at this; cases this
  · by_cases q : b = a
    · obtain ⟨o, e, _⟩ := hl; exact ⟨o, q ▸ e⟩
    · exact (S.live b y).imp fun o e => hs.extBut b o q e
  · obtain ⟨ov, hc⟩ := S.cel n b y
    exact ⟨ov, hc.sameBut hs (IsList_ne_Cell hla hc).symm⟩
  · obtain ⟨v, y, r⟩ := S.vars x d e
    refine ⟨v, ?_, r.mono hx⟩
    rcases y with ⟨y, m', n', q⟩ | ⟨y, c', q, i⟩
    · exact .inl ⟨y, m', n'.sameBut hs hne.symm, q⟩
    · exact .inr ⟨y, c', q, i.sameBut hs (IsList_ne_Cell hla i).symm⟩
  · rcases mem_setM y with ⟨rfl, rfl, _⟩ | ⟨hb, q⟩
    · exact ⟨vs, hl, hr.weak fun b z => (hX b).mp z⟩
    · obtain ⟨us, hl', r⟩ := S.mem b fs q
      exact ⟨us, hl'.extBut hs.extBut hb, r.mono hx⟩
  · rw [setM_keys]; exact S.nodup
  · rcases mem_setM y with ⟨rfl, _, _⟩ | ⟨_, z⟩
    · exact S.memX _ _ hm q
    · exact S.memX _ _ z q
theorem Go.setM {s : Shared} {h' : Heap} {tk : Nat} {a : Addr} {ds es : List D} {vs : Array Value} (hm : (a, ds) ∈ μ) (hs : Heap.SameBut a s.heap h') (hl : PL h' a vs) : Go env μ s (Mine.setM μ a es) { s with heap := h', toks := tk } := by
  have g := Go.but (env := env) (tk := tk) (.inr (.inr ⟨ds, hm⟩)) hs (let ⟨o, e, _⟩ := hl; ⟨o, e⟩)
  refine ⟨g.same, g.keep, g.alive, fun b fs y => ?_⟩
  rcases mem_setM y with ⟨_, _, q⟩ | ⟨_, q⟩
  · exact .inl q
  · exact .inl ⟨_, q⟩

/-- x.append(e) -/
theorem ex_append {Q : Out → Vars → Mem → Prop} {x : Str} {px apos cpos pos : Pos} {e : Expr} {a : Addr} {ds : List D} {d : D} (hx : ρ.lookup x = some (.raw (.ref a))) (hm : (a, ds) ∈ μ) (he : Ev c k env ρ μ e d) (hlen : ds.length ≤ 16777216)
    (h : Q .next ρ (setM μ a (ds ++ [d]))) (hd : (x == ("__debug__" : Str)) = false := by decide) (hst : notStar e = true := by rfl)
    (hline : (apos.endLine == cpos.line) = true := by rfl) (hi : interactive env = false := by rfl) (hs : swapsWith (.Call (.Attribute (.Name x px) "append" apos) [e] [] cpos) none pos.line env = pure false := by rfl) :
    Ex1 c k env ρ μ (.Expr (.Call (.Attribute (.Name x px) "append" apos) [e] [] cpos) pos) Q := by
  intro X₀ A s E hA S
  have hse : backTo cpos (starEach [e] env) = [(false, eval e env)] := by rw [starEach_cons hst]; rfl
  refine wpAny_Expr_any (wpAny_Call_append rfl (by rw [hse]; rfl) hline hse (gives_bind (ev_name (k := k) hx hd _ A s hA S.rc) fun v s₁ k₁ r₁ => ?_)) hi hs
  cases r₁
  have S₁ := S.kp k₁
  obtain ⟨vs, hl, hr⟩ := S₁.mem a ds hm
  refine ⟨a, vs, rfl, hl.plain, gives_bind (he _ A s₁ hA S₁.rc) fun u s₂ k₂ r₂ => ?_⟩
  have S₂ := S₁.kp k₂
  have hl₂ : PL s₂.heap a vs := let ⟨o, e, q⟩ := hl; ⟨o, k₂.sub a o e, q⟩
  have hv : vs.size = ds.length := by have := hr.length; simpa using this
  refine list_append_plainL (hsz := by rw [hv, sizeLine_eq]; exact hlen) hl₂.plain fun h' hl' hs' => ?_
  have hX : XOf X₀ env μ a := .inr (.inr (.inr ⟨ds, hm⟩))
  have hr' : RdAll (XOf X₀ env μ) h' (vs.push u).toList (ds ++ [d]) := by
    rw [Array.toList_push]
    exact ((hr.keep k₂.sub).but hX hs').append (.cons (r₂.but hX hs') .nil)
  exact ⟨.next, ρ, _, trivial, S₂.setM (tk := s₂.toks) hm hs' (PL.of hl') hr', (Go.of_kp (k₁.trans k₂)).trans (Go.setM (tk := s₂.toks) hm hs' (PL.of hl')), h⟩

def dropM (μ : Mem) (a : Addr) : Mem := μ.filter fun p => p.1 != a
theorem mem_dropM {μ : Mem} {a b : Addr} {ds : List D} : (b, ds) ∈ dropM μ a ↔ (b, ds) ∈ μ ∧ b ≠ a := by
  unfold dropM; simp

theorem St.dropM {X₀ : Addr → Prop} {s : Shared} {a : Addr} (S : St c X₀ env ρ μ s) : St c X₀ env ρ (Mine.dropM μ a) s := by
  have hM : ∀ b, Mut env (Mine.dropM μ a) b → Mut env μ b := fun b m => by
    rcases m with m | m | ⟨fs, m⟩
    · exact .inl m
    · exact .inr (.inl m)
    · exact .inr (.inr ⟨fs, (mem_dropM.mp m).1⟩)
  have hX : ∀ b, XOf X₀ env (Mine.dropM μ a) b → XOf X₀ env μ b := fun b y => y.imp id (hM b)
  refine { S with own := fun b m => S.own b (hM b m), vars := fun x d e => ?_, mem := fun b es m => ?_, nodup := ?_, memX := fun b es m q => S.memX b es (mem_dropM.mp m).1 q }
  · obtain ⟨v, y, r⟩ := S.vars x d e; exact ⟨v, y, r.weak hX⟩
  · obtain ⟨us, y, r⟩ := S.mem b es (mem_dropM.mp m).1; exact ⟨us, y, r.weak hX⟩
  · exact S.nodup.sublist (List.filter_sublist.map _)
theorem Go.dropM {s s' : Shared} {μ' : Mem} {a : Addr} (g : Go env (Mine.dropM μ a) s μ' s') : Go env μ s μ' s' := by
  refine ⟨g.same, fun b o n e => g.keep b o (fun m => n ?_) e, g.alive, fun b fs y => ?_⟩
  · rcases m with m | m | ⟨fs, m⟩
    · exact .inl m
    · exact .inr (.inl m)
    · exact .inr (.inr ⟨fs, (mem_dropM.mp m).1⟩)
  · rcases g.grow b fs y with ⟨gs, q⟩ | q
    · exact .inl ⟨gs, (mem_dropM.mp q).1⟩
    · exact .inr q

/-- it changes no more: x is plain data from here -/
theorem ex_freeze {Q : Out → Vars → Mem → Prop} {ss : List Stmt} {x : Str} {a : Addr} {ds : List D} (hx : ρ.lookup x = some (.raw (.ref a))) (hm : (a, ds) ∈ μ) (h : Ex c k env ((x, .list ds) :: ρ) (dropM μ a) ss Q) : Ex c k env ρ μ ss Q := by
  intro X₀ A s E hA S
  have S' : St c X₀ env ((x, .list ds) :: ρ) (dropM μ a) s := by
    have S₁ := S.dropM (a := a)
    refine { S₁ with vars := fun y d e => ?_ }
    rw [List.lookup_cons] at e
    cases hb : y == x with
    | false => rw [hb] at e; exact S₁.vars y d e
    | true =>
      rw [hb] at e
      cases e
      obtain ⟨v, hv, r⟩ := S.vars x _ hx
      cases r
      obtain ⟨vs, ⟨o, e, hc, _, n, hd⟩, hr⟩ := S.mem a ds hm
      rw [beq_iff_eq.mp hb]
      refine ⟨_, hv, .list ?_ e hc hd (hr.weak fun b z => ?_)⟩
      · rintro (y | y | ⟨n', y⟩ | ⟨fs, y⟩)
        · exact S.memX a ds hm y
        · obtain ⟨m, hns⟩ := S.ns
          exact IsList_ne_Ns ⟨o, e, hc, n, hd⟩ hns y
        · obtain ⟨ov, hcl⟩ := S.cel n' a y
          exact IsList_ne_Cell ⟨o, e, hc, n, hd⟩ hcl rfl
        · exact (mem_dropM.mp y).2 rfl
      · rcases z with z | z | z | ⟨fs, z⟩
        · exact .inl z
        · exact .inr (.inl z)
        · exact .inr (.inr (.inl z))
        · exact .inr (.inr (.inr ⟨fs, (mem_dropM.mp z).1⟩))
  exact wpAny_mono (h X₀ A s E hA S') (fun fl s' p => let ⟨o, ρ', μ', y1, y2, g, q⟩ := p; ⟨o, ρ', μ', y1, y2, g.dropM, q⟩) fun _ _ e => e
end
end Mine
end

/-! # MS1 -/
section
set_option autoImplicit false
namespace Mine
open PySem

def Rise (xs : Array Nat) : Prop := xs.toList.Pairwise (· < ·)

/-- a table that is walked as it lies -/
structure TOk (bt : Bool) (t : SetTable) : Prop where
  rise : Rise t.place
  none : t.dummies = #[]
  led : t.led = true ∨ bt = true

theorem rise_get {xs : Array Nat} (h : Rise xs) {i j : Nat} {a b : Nat} (hi : xs[i]? = some a) (hj : xs[j]? = some b) (hij : i < j) : a < b := by
  have hi' : xs.toList[i]? = some a := by simpa using hi
  have hj' : xs.toList[j]? = some b := by simpa using hj
  obtain ⟨p, rfl⟩ := List.getElem?_eq_some_iff.mp hi'
  obtain ⟨q, rfl⟩ := List.getElem?_eq_some_iff.mp hj'
  exact List.pairwise_iff_getElem.mp h i j p q hij

structure Cut (xs : Array Nat) (j p : Nat) : Prop where
  le : p ≤ xs.size
  lo : ∀ (i a : Nat), i < p → xs[i]? = some a → a < j
  hi : ∀ (i a : Nat), p ≤ i → xs[i]? = some a → j ≤ a

theorem below_go {xs : Array Nat} {j : Nat} (h : Rise xs) : ∀ (fuel lo hi : Nat), lo ≤ hi → hi ≤ xs.size → hi - lo ≤ fuel → (∀ (i a : Nat), i < lo → xs[i]? = some a → a < j) → (∀ (i a : Nat), hi ≤ i → xs[i]? = some a → j ≤ a) →
    Cut xs j (SetTable.below.go xs j fuel lo hi)
  | 0, lo, hi, h1, h2, h3, h4, h5 => by
    have : lo = hi := by lia
    subst this
    exact ⟨h2, h4, h5⟩
  | fuel + 1, lo, hi, h1, h2, h3, h4, h5 => by
    unfold SetTable.below.go
    split
    · rename_i hlt
      have hm : (lo + hi) / 2 < xs.size := by lia
      have hg : xs[(lo + hi) / 2]? = some (xs[(lo + hi) / 2]) := by simp [hm]
      dsimp only
      have hgd : xs.getD ((lo + hi) / 2) j = xs[(lo + hi) / 2] := by simp [Array.getD, hm]
      rw [hgd]
      split
      · rename_i hc
        refine below_go h fuel _ _ (by lia) h2 (by lia) (fun i a hi' e => ?_) h5
        by_cases q : i = (lo + hi) / 2
        · subst q; rw [hg] at e; cases e; exact hc
        · exact Nat.lt_trans (rise_get h e hg (by lia)) hc
      · rename_i hc
        refine below_go h fuel _ _ (by lia) (by lia) (by lia) h4 fun i a hi' e => ?_
        by_cases q : i = (lo + hi) / 2
        · subst q; rw [hg] at e; cases e; lia
        · have := rise_get h hg e (by lia); lia
    · have : lo = hi := by lia
      subst this
      exact ⟨h2, h4, h5⟩
theorem below_cut {xs : Array Nat} (h : Rise xs) (j : Nat) : Cut xs j (SetTable.below xs j) :=
  below_go h xs.size 0 xs.size (Nat.zero_le _) (Nat.le_refl _) (by lia) (fun i a hi => absurd hi (Nat.not_lt_zero _)) fun i a hi e => by
    have := (Array.getElem?_eq_some_iff.mp e).1; lia
theorem cut_unique {xs : Array Nat} {j p q : Nat} (a : Cut xs j p) (b : Cut xs j q) : p = q := by
  rcases Nat.lt_trichotomy p q with h | h | h
  · have hp : p < xs.size := Nat.lt_of_lt_of_le h b.le
    have e : xs[p]? = some xs[p] := by simp [hp]
    have h1 := b.lo p _ h e
    have h2 := a.hi p _ (Nat.le_refl _) e
    lia
  · exact h
  · have hp : q < xs.size := Nat.lt_of_lt_of_le h a.le
    have e : xs[q]? = some xs[q] := by simp [hp]
    have h1 := a.lo q _ h e
    have h2 := b.hi q _ (Nat.le_refl _) e
    lia

theorem rise_insert {xs : Array Nat} (h : Rise xs) {j : Nat} (hn : (xs[SetTable.below xs j]? == some j) = false) : Rise (SetTable.insertAt xs (SetTable.below xs j) j) := by
  have c := below_cut h j
  unfold Rise
  rw [SetTable.toList_insertAt, List.pairwise_append, List.pairwise_cons]
  have mtake : ∀ a ∈ xs.toList.take (SetTable.below xs j), a < j := fun a ha => by
    obtain ⟨i, hi, e⟩ := List.mem_iff_getElem.mp ha
    rw [List.getElem_take] at e
    rw [List.length_take] at hi
    refine c.lo i a (by lia) ?_
    rw [← Array.getElem?_toList, ← e]; simp
  have mdrop : ∀ a ∈ xs.toList.drop (SetTable.below xs j), j < a := fun a ha => by
    obtain ⟨i, hi, e⟩ := List.mem_iff_getElem.mp ha
    rw [List.getElem_drop] at e
    rw [List.length_drop] at hi
    have e' : xs[SetTable.below xs j + i]? = some a := by rw [← Array.getElem?_toList, ← e]; simp
    have h1 := c.hi _ a (Nat.le_add_right _ _) e'
    by_cases q : j = a
    · exfalso
      subst q
      by_cases z : i = 0
      · subst z; rw [Nat.add_zero] at e'; rw [e'] at hn; simp at hn
      · have hs : SetTable.below xs j < xs.size := by simp at hi; lia
        have e0 : xs[SetTable.below xs j]? = some (xs[SetTable.below xs j]) := by simp [hs]
        have h2 := c.hi _ _ (Nat.le_refl _) e0
        have h3 := rise_get h e0 e' (by lia)
        lia
    · lia
  exact ⟨h.sublist (List.take_sublist _ _), ⟨mdrop, h.sublist (List.drop_sublist _ _)⟩, fun a ha b hb => by
    rcases List.mem_cons.mp hb with q | q
    · rw [q]; exact mtake a ha
    · exact Nat.lt_trans (mtake a ha) (mdrop b q)⟩

theorem has_nil (j : Nat) : SetTable.has #[] j = false := by
  unfold SetTable.has; simp

theorem probe_go {t : SetTable} {f : Nat → Int} {h : Int} (hd : t.dummies = #[]) : ∀ (fuel : Nat) (p : SetTable.Probe) (j : Nat) (d : Option Nat), p.dummy = none → SetTable.probe.go t f h fuel p = some (.empty j d) → d = none ∧ t.slot j = .empty
  | 0, _, _, _, _, e => by simp [SetTable.probe.go] at e
  | fuel + 1, p, j, d, hp, e => by
    have adv : (t.advance p).dummy = none := by unfold SetTable.advance; split <;> exact hp
    unfold SetTable.probe.go at e
    split at e
    · rename_i hs
      cases e
      exact ⟨hp, hs⟩
    · rename_i hs
      exfalso
      unfold SetTable.slot at hs
      dsimp only at hs
      rw [hd, has_nil] at hs
      split at hs
      · cases hs
      · simp at hs
    · split at e
      · cases e
      · exact probe_go hd fuel _ j d adv e

theorem put_ok {bt : Bool} {t : SetTable} {j : Nat} (h : TOk bt t) (hs : t.slot j = .empty) : TOk bt (t.put j).1 := by
  have hn : (t.place[SetTable.below t.place j]? == some j) = false := by
    unfold SetTable.slot at hs
    dsimp only at hs
    split at hs
    · cases hs
    · rename_i q; simpa using q
  unfold SetTable.put
  dsimp only
  refine ⟨rise_insert h.rise hn, ?_, h.led⟩
  rw [h.none, has_nil]; simp

theorem standIn_ok {bt : Bool} {t : SetTable} {n : Nat} (h : TOk bt t) : TOk bt (t.standIn n) := by
  refine ⟨?_, rfl, h.led⟩
  unfold Rise SetTable.standIn
  dsimp only
  rw [Array.toList_range]
  exact List.pairwise_lt_range
theorem orStandIn_ok {bt : Bool} {t : SetTable} {n : Nat} (h : TOk bt t) : TOk bt (t.orStandIn n) := by
  unfold SetTable.orStandIn; split
  · exact h
  · exact standIn_ok h

theorem layNew_ok {bt : Bool} {t : SetTable} {es : Array (Int × Value)} {h : Int} {x : Value} (ok : TOk bt t) : TOk bt (layNew t es h x).2.1 := by
  unfold layNew
  split
  · rename_i slot wd hf
    dsimp only
    refine orStandIn_ok (put_ok ok ?_)
    unfold SetTable.freeSlot at hf
    split at hf
    · rename_i j d hp
      cases hf
      obtain ⟨rfl, q⟩ := probe_go ok.none _ _ _ _ rfl hp
      exact q
    · cases hf
  · exact standIn_ok ok

theorem laid_ok {bt : Bool} {mask finger moves : Nat} {led plain : Bool} {hs : Array Int} {t : SetTable} {order : Array Nat} (hl : led = true ∨ bt = true) (e : SetTable.laid mask finger moves led plain hs = some (t, order)) : TOk bt t := by
  unfold SetTable.laid at e
  cases ho : SetTable.layClean mask hs with
  | none => first | exact (no1 (ho) e).elim | exact (no1 e (ho)).elim | (rw [ho] at e; cases e)
  | some owner =>
    rw [ho] at e
    cases e
    refine ⟨?_, rfl, hl⟩
    unfold Rise
    dsimp only
    have key : ∀ l : List Nat, (l.filterMap fun j => (owner.getD j none).map (j, ·)).map (·.1) = l.filter fun j => (owner.getD j none).isSome := by
      intro l
      induction l with
      | nil => rfl
      | cons a l ih =>
        rw [List.filterMap_cons, List.filter_cons]
        cases hq : owner.getD a none with
        | none => simpa using ih
        | some b => simpa using ih
    rw [key]
    exact List.pairwise_lt_range.sublist List.filter_sublist
theorem relayAll_ok {bt : Bool} {t : SetTable} {es : Array (Int × Value)} {n : Nat} (ok : TOk bt t) : TOk bt (relayAll t es n).2.1 := by
  unfold relayAll
  split
  · rename_i t' order he
    dsimp only
    split
    · exact laid_ok ok.led he
    · exact standIn_ok ok
  · exact standIn_ok ok

/-- the walk of a table in order -/
theorem walk_at {xs : Array Nat} (h : Rise xs) (i : Nat) (hi : i ≤ xs.size) : SetTable.below xs (if i = 0 then 0 else xs.getD (i - 1) 0 + 1) = i := by
  refine cut_unique (below_cut h _) ?_
  by_cases z : i = 0
  · subst z
    simp only [if_true]
    exact ⟨Nat.zero_le _, fun i a hi => absurd hi (Nat.not_lt_zero _), fun _ _ _ _ => Nat.zero_le _⟩
  · rw [if_neg z]
    have hs : i - 1 < xs.size := by lia
    have hg : xs.getD (i - 1) 0 = xs[i - 1] := by simp [Array.getD, hs]
    have e0 : xs[i - 1]? = some (xs[i - 1]) := by simp [hs]
    rw [hg]
    refine ⟨hi, fun k a hk e => ?_, fun k a hk e => ?_⟩
    · by_cases q : k = i - 1
      · subst q; rw [e0] at e; cases e; lia
      · have := rise_get h e e0 (by lia); lia
    · have := rise_get h e0 e (by lia); lia

theorem erase_perm {α : Type} {l : List α} {i : Nat} (h : i < l.length) : (l[i] :: l.eraseIdx i).Perm l := by
  rw [List.eraseIdx_eq_take_drop_succ]
  have e : l = l.take i ++ l[i] :: l.drop (i + 1) := by
    rw [← List.drop_eq_getElem_cons h, List.take_append_drop]
  exact (List.perm_middle.symm.trans (List.Perm.of_eq e.symm))

/-- the two drawn orders are orders -/
theorem pickOrder_go_perm {α : Type} (next : Nat → Nat) : ∀ (fuel k : Nat) (left : List α) (out : Array α), left.length ≤ fuel → (pickOrder.go next fuel k left out).toList.Perm (out.toList ++ left)
  | 0, _, left, out, h => by
    have : left = [] := List.eq_nil_of_length_eq_zero (by lia)
    subst this
    unfold pickOrder.go; simp
  | fuel + 1, k, left, out, h => by
    unfold pickOrder.go
    cases left with
    | nil => simp
    | cons a l =>
      have hl : next k % (a :: l).length < (a :: l).length := Nat.mod_lt _ (by simp)
      have e : (a :: l)[next k % (a :: l).length]? = some ((a :: l)[next k % (a :: l).length]) := List.getElem?_eq_getElem hl
      rw [e]
      dsimp only
      have ih := pickOrder_go_perm next fuel (k + 1) ((a :: l).eraseIdx (next k % (a :: l).length)) (out.push ((a :: l)[next k % (a :: l).length])) (by rw [List.length_eraseIdx_of_lt hl]; simp at h ⊢; lia)
      refine ih.trans ?_
      rw [Array.toList_push, List.append_assoc]
      exact List.Perm.append_left _ (erase_perm hl)
theorem pickOrder_perm {α : Type} (next : Nat → Nat) (xs : Array α) : (pickOrder next xs).toList.Perm xs.toList := by
  unfold pickOrder
  simpa using pickOrder_go_perm next xs.size 0 xs.toList #[] (by simp)
end Mine
end

/-! # MS2 -/
section
set_option autoImplicit false
namespace Mine
open PySem PyProof.Rows

def bt (w : World) : Bool := w.params.followText "set-order"

/-- the object at a is a set of just these ints -/
def SetI (prog : Program) (w : World) (h : Heap) (a : Addr) (S : List Int) : Prop :=
  ∃ o es ep t ms, h.get? a = some o ∧ o.ExactSet ∧ o.data = .set es ep t ∧ ElemsOf (intKind prog w) es.toList ∧ IntsAre (es.toList.map (·.2)) ms ∧ ms.Nodup ∧ (∀ k, k ∈ ms ↔ k ∈ S) ∧
    es.size < scanBound ∧ t.fits es.size = true ∧ TOk (bt w) t

theorem SetI.at {prog : Program} {w : World} {h h' : Heap} {a : Addr} {S : List Int} (x : SetI prog w h a S) (k : ∀ o, h.get? a = some o → h'.get? a = some o) : SetI prog w h' a S := by
  obtain ⟨o, es, ep, t, ms, e, r⟩ := x
  exact ⟨o, es, ep, t, ms, k o e, r⟩

theorem nodup_len : ∀ {l m : List Int}, l.Nodup → (∀ x ∈ l, x ∈ m) → l.length ≤ m.length
  | [], _, _, _ => Nat.zero_le _
  | a :: l, m, hn, hs => by
    rw [List.nodup_cons] at hn
    have ha := hs a (.head _)
    have ih := nodup_len (l := l) (m := m.erase a) hn.2 fun x hx => (List.mem_erase_of_ne (show x ≠ a from fun e => hn.1 (e ▸ hx))).mpr (hs x (.tail _ hx))
    have h1 := List.length_erase_of_mem ha
    have h2 : 0 < m.length := List.length_pos_of_mem ha
    rw [List.length_cons]; lia

theorem ints_perm {vs vs' : List Value} {ns : List Int} (h : IntsAre vs ns) (p : vs'.Perm vs) : ∃ ns', IntsAre vs' ns' ∧ ns'.Perm ns := by
  refine ⟨vs'.map numOf, intsAre_map vs' fun v hv => h.all v (p.mem_iff.mp hv), ?_⟩
  rw [← h.nums]
  exact p.map numOf

theorem ints_find {prog : Program} {w : World} {k : Int} : ∀ {es : List (Int × Value)} {ms : List Int}, IntsAre (es.map (·.2)) ms → ((∃ e ∈ es, (intKind prog w).is k e.2 = true) ↔ k ∈ ms)
  | [], _, h => by cases h; simp
  | e :: es, _, h => by
    obtain ⟨eh, ev⟩ := e
    rw [List.map_cons] at h
    cases h with
    | cons n t hr =>
      have ih := @ints_find prog w k es _ hr
      simp only [List.mem_cons, exists_eq_or_imp, ih]
      have : (intKind prog w).is k (.int n t) = true ↔ k = n := by
        constructor
        · intro q
          have q' : Value.isInt k (.int n t) = true := q
          obtain ⟨u, e⟩ := Value.isInt_shape q'
          cases e; rfl
        · rintro rfl; exact intKind_is _ _ _ _
      rw [this]

section
variable {prog : Program} {w : World} {A : Around} {E : Value → Shared → Prop} {s : Shared}

theorem byText_at {Q : Bool → Shared → Prop} (h : Q (bt w) s) : wpAny (model prog w) A setsByText Q E s := by
  unfold setsByText
  exact wpAny_bind (wpAny_askSetting (wpAny_pure h))

theorem put_at {h : Heap} {a : Addr} {o : Obj} {es : Array (Int × Value)} {ep : Nat} {t : SetTable} (ho : h.get? a = some o) (hd : o.data = .set es ep t) (es' : Array (Int × Value)) (t' : SetTable) :
    (h.update a (Obj.putSet es' t')).get? a = some { o with data := .set es' (ep + 1) t' } := by
  have := Heap.get?_update_self (Obj.putSet es' t') ho (by rw [putSet_of es' t' hd]; rfl)
  rw [putSet_of es' t' hd] at this; exact this

/-- a set's table, by what it holds -/
structure SetE (prog : Program) (w : World) (es : Array (Int × Value)) (S : List Int) : Prop where
  el : ElemsOf (intKind prog w) es.toList
  ms : ∃ ms, IntsAre (es.toList.map (·.2)) ms ∧ ms.Nodup ∧ ∀ k, k ∈ ms ↔ k ∈ S
  lt : es.size < scanBound
theorem SetE.perm {es es' : Array (Int × Value)} {S : List Int} (x : SetE prog w es S) (hp : es'.toList.Perm es.toList) : SetE prog w es' S := by
  obtain ⟨ms, hI, hn, hm⟩ := x.ms
  obtain ⟨ms2, hI2, hp2⟩ := ints_perm hI (hp.map (·.2))
  exact ⟨x.el.perm hp, ⟨ms2, hI2, hp2.nodup_iff.mpr hn, fun k => by rw [hp2.mem_iff, hm]⟩, by rw [← Array.length_toList, hp.length_eq, Array.length_toList]; exact x.lt⟩
theorem ints_push {k : Int} {tk : Tok} {vs : List Value} {ns : List Int} (h : IntsAre vs ns) : IntsAre (vs ++ [.int k tk]) (ns ++ [k]) := by
  induction h with
  | nil => exact .cons _ _ .nil
  | cons n t _ ih => exact .cons n t ih
theorem SetE.add {es : Array (Int × Value)} {S ms : List Int} {k : Int} {tk : Tok} (hel : ElemsOf (intKind prog w) es.toList) (hI : IntsAre (es.toList.map (·.2)) ms) (hnd : ms.Nodup) (hmem : ∀ k, k ∈ ms ↔ k ∈ S) (hk : k ∉ ms) (hroom : S.length + 1 < scanBound) :
    SetE prog w (es.push ((intKind prog w).hash k, .int k tk)) (S ++ [k]) := by
  refine ⟨by rw [Array.toList_push]; exact hel.push (intKind_is _ _ _ _) rfl, ⟨ms ++ [k], by rw [Array.toList_push, List.map_append]; exact ints_push hI, List.nodup_append.mpr ⟨hnd, by simp, fun x hx y hy e => hk ((List.mem_singleton.mp hy) ▸ e ▸ hx)⟩, fun x => by rw [List.mem_append, List.mem_append, hmem]⟩, ?_⟩
  have h1 : es.size = ms.length := by have := hI.length; simpa using this
  have h2 := nodup_len hnd fun x hx => (hmem x).mp hx
  rw [Array.size_push, h1]
  exact Nat.lt_of_le_of_lt (Nat.succ_le_succ h2) hroom
theorem SetE.at {a : Addr} {o : Obj} {es : Array (Int × Value)} {ep : Nat} {t : SetTable} {S : List Int} {h : Heap} (x : SetE prog w es S) (ho : h.get? a = some o) (hex : o.ExactSet) (hd : o.data = .set es ep t) (hf : t.fits es.size = true) (hok : TOk (bt w) t) : SetI prog w h a S :=
  let ⟨ms, h1, h2, h3⟩ := x.ms; ⟨o, es, ep, t, ms, ho, hex, hd, x.el, h1, h2, h3, x.lt, hf, hok⟩

theorem gave_way {b : Bool} {Q : Unit → Shared → Prop} (hq : Q () s) : wpAny (model prog w) A (match b with | true => rule "set.scan.the-table-gave-way" | false => pure ()) Q E s := by
  cases b
  · exact wpAny_pure hq
  · exact wpAny_rule hq

theorem set_tail {a : Addr} {o : Obj} {es es1 : Array (Int × Value)} {ep : Nat} {t t2 : SetTable} {S : List Int} {wasDummy : Bool} {Q : Option Bool → Shared → Prop} (ho : s.heap.get? a = some o) (hex : o.ExactSet) (hd : o.data = .set es ep t) (X : SetE prog w es1 S) (hf2 : t2.fits es1.size = true) (hok2 : TOk (bt w) t2)
    (h : ∀ h', Heap.SameBut a s.heap h' → SetI prog w h' a S → Q (some true) { s with heap := h' }) :
    wpAny (model prog w) A (do
      storeSet a es1 t2
      if (!wasDummy && t2.tooFull) = true then do
          (match (relayAll t2 es1 (SetTable.grown es1.size)).2.2 with | true => rule "set.scan.the-table-gave-way" | false => pure ())
          storeSet a (relayAll t2 es1 (SetTable.grown es1.size)).1 (relayAll t2 es1 (SetTable.grown es1.size)).2.1
          pure (some true)
        else pure (some true)) Q E s := by
  refine wpAny_bind (wpAny_storeSet_of ho hd ?_ (fits_of_scanBound X.lt))
  have ho1 := put_at ho hd es1 t2
  have hsb1 := Heap.SameBut.update s.heap a (Obj.putSet es1 t2)
  split
  · have hp := relayAll_perm t2 es1 (SetTable.grown es1.size)
    have X2 := X.perm hp
    refine wpAny_bind (gave_way (wpAny_bind (wpAny_storeSet_of ho1 rfl ?_ (fits_of_scanBound X2.lt))))
    exact wpAny_pure (h _ (hsb1.trans (Heap.SameBut.update _ a _)) (X2.at (put_at ho1 rfl _ _) hex rfl (relayAll_fits t2 es1 _) (relayAll_ok (es := es1) hok2)))
  · exact wpAny_pure (h _ hsb1 (X.at ho1 hex rfl hf2 hok2))

theorem setAdd_at {a : Addr} {S : List Int} {k : Int} {tk : Tok} {Q : Bool → Shared → Prop} (hS : SetI prog w s.heap a S) (hroom : S.length + 1 < scanBound)
    (h : ∀ b h' tk', Heap.SameBut a s.heap h' → SetI prog w h' a (S ++ [k]) → Q b { s with heap := h', toks := tk' }) :
    wpAny (model prog w) A (setAdd a (.int k tk)) Q E s := by
  obtain ⟨o, es, ep, t, ms, ho, hex, hd, hel, hI, hnd, hmem, hb, hf, hok⟩ := hS
  have hfind := ints_find (prog := prog) (w := w) (k := k) hI
  unfold setAdd
  refine wpAny_holding (wpAny_bind ((intKind prog w).pyHash (k := k) (intKind_is _ _ _ _) ?_))
  unfold setAddHashed setAddHashedIn
  refine wpAny_holding (wpAny_bind (wpAny_setState_of (s := { s with toks := s.toks + 1 }) ho hd hf ?_))
  dsimp only
  rw [byScan_of (knd := intKind prog w) rfl hb hel]
  simp only [↓reduceIte]
  unfold setAddByScan
  refine wpAny_bind (wpAny_bind (wpAny_rule ?_))
  refine wpAny_bind (wpAny_setScan_of (s := { s with toks := s.toks + 1 }) (knd := intKind prog w) (k := k) (intKind_is _ _ _ _) ho hd hf hel ?_)
  cases hr : List.findIdx? (fun e => (intKind prog w).is k e.2) es.toList with
  | some j =>
    dsimp only
    obtain ⟨hj, hpj, _⟩ := List.findIdx?_eq_some_iff_getElem.mp hr
    have hk : k ∈ ms := hfind.mp ⟨es.toList[j], List.getElem_mem hj, hpj⟩
    exact wpAny_pure (wpAny_pure (h false s.heap _ (Heap.SameBut.refl a s.heap) ⟨o, es, ep, t, ms, ho, hex, hd, hel, hI, hnd, fun x => by
      rw [hmem, List.mem_append, List.mem_singleton]
      exact ⟨.inl, fun q => q.elim id fun q => q ▸ (hmem k).mp hk⟩, hb, hf, hok⟩))
  | none =>
    dsimp only
    have hk : k ∉ ms := fun hk => by
      obtain ⟨e, he, hp⟩ := hfind.mpr hk
      have := List.findIdx?_eq_none_iff.mp hr e he; rw [hp] at this; exact Bool.noConfusion this
    have X1 := (SetE.add (tk := tk) hel hI hnd hmem hk hroom).perm (layNew_perm t es ((intKind prog w).hash k) (.int k tk))
    have hfits := layNew_fits t es ((intKind prog w).hash k) (.int k tk)
    have hok1 := layNew_ok (es := es) (h := (intKind prog w).hash k) (x := .int k tk) hok
    generalize layNew t es ((intKind prog w).hash k) (.int k tk) = L at X1 hfits hok1 ⊢
    refine wpAny_bind (gave_way ?_)
    have fin : ∀ {T : Sem (Option Bool)}, (∀ Q', (∀ h', Heap.SameBut a s.heap h' → SetI prog w h' a (S ++ [k]) → Q' (some true) { s with heap := h', toks := s.toks + 1 }) → wpAny (model prog w) A T Q' E { s with toks := s.toks + 1 }) → _ := fun {T} hT => hT (fun r s₁ => wpAny (model prog w) A (match r with | some added => pure added | none => setAddHashedIn a (.int k tk) ((intKind prog w).hash k) 99999) Q E s₁) fun h' x y => wpAny_pure (h true h' _ x y)
    split
    · refine wpAny_bind ?_
      rw [hashByValue_scannable 8 rfl]
      refine wpAny_pure ?_
      simp only [plainKind, ↓reduceIte]
      exact fin fun Q' hq => set_tail (s := { s with toks := s.toks + 1 }) ho hex hd X1 hfits hok1 hq
    · refine wpAny_bind (wpAny_pure ?_)
      simp only [↓reduceIte]
      exact fin fun Q' hq => set_tail (s := { s with toks := s.toks + 1 }) ho hex hd X1 hfits hok1 hq
end
end Mine
end

/-! # MS3 -/
section
set_option autoImplicit false
set_option maxRecDepth 100000
namespace Mine
open PySem PyProof.Rows

section
variable {prog : Program} {w : World} {A : Around} {R : Result → Shared → Prop} {I : Addr} {fp wr : List Addr} {n : Nat} {P : Nat → Value → Prop} {St : Nat → Heap → Prop}

theorem update_loop (W : Walks prog w A.in1 I fp wr n P St) (S : Addr) (hSf : S ∉ fp) (val : Nat → Int) (hval : ∀ i v, P i v → ∃ t, v = .int (val i) t) (hb : n + 1 < scanBound) :
    ∀ (k i : Nat) (s : Shared), n - i = k → i ≤ n → St i s.heap → SetI prog w s.heap S ((List.range i).map val) →
      (∀ h' tk, (∀ b o, b ∉ S :: wr → s.heap.get? b = some o → h'.get? b = some o) → SetI prog w h' S ((List.range n).map val) → R (.ok (.ret .none)) { s with heap := h', toks := tk }) →
      codeAny (model prog w) A (.builtin "set.update.loop" ⟨[.ref S, .ref I], []⟩) R s := by
  have hSw : S ∉ wr := fun h => hSf (W.sub _ h)
  intro k
  induction k with
  | zero =>
    intro i s hk hi hst hS hR
    have hin : i = n := by lia
    subst hin
    refine codeAny_builtin PyProof.Rows.F.entry_set_update_loop ?_
    rw [Around.under_plainId PyProof.Rows.F.plain_set_update_loop _]
    show wpAny _ A.in1 (pyNext (.ref I) >>= _) _ _ s
    refine wpAny_bind (W.done s _ _ hst fun h' tk hm => ?_)
    show wpAny _ A.in1 (ret Value.none) _ _ _
    exact wpAny_pure (hR h' tk (fun b o hb e => hm b o (fun q => hb (List.mem_cons_of_mem _ q)) e) (hS.at fun o e => hm S o hSw e))
  | succ k ih =>
    intro i s hk hi hst hS hR
    have hlt : i < n := by lia
    refine codeAny_builtin PyProof.Rows.F.entry_set_update_loop ?_
    rw [Around.under_plainId PyProof.Rows.F.plain_set_update_loop _]
    show wpAny _ A.in1 (pyNext (.ref I) >>= _) _ _ s
    refine wpAny_bind (W.item i s _ _ hlt hst fun v h₁ tk₁ hP hst' hm => ?_)
    obtain ⟨t, rfl⟩ := hval i v hP
    show wpAny _ A.in1 (holding [Value.int (val i) t] (setAdd S (.int (val i) t)) >>= _) _ _ _
    refine wpAny_bind (wpAny_holding (setAdd_at (S := (List.range i).map val) (hS.at fun o e => hm S o hSw e) (by simp; lia) fun b h₂ tk₂ hsb hS2 => ?_))
    refine wpAny_pure ⟨plainId_quiet PyProof.Rows.F.plain_set_update_loop _, ih (i + 1) _ (by lia) hlt (W.frame _ _ _ hst' fun b hb o e => ?_) ?_ fun h₃ tk₃ hm₃ hS₃ => ?_⟩
    · exact hsb.extBut b o (fun q => hSf (q ▸ hb)) e
    · rw [List.range_succ, List.map_append]; exact hS2
    · refine hR h₃ tk₃ (fun b o hb e => hm₃ b o hb (hsb.extBut b o (fun q => hb (q ▸ List.mem_cons_self)) (hm b o (fun q => hb (List.mem_cons_of_mem _ q)) e))) hS₃
end

section
variable {prog : Program} {w : World} {A : Around} {E : Value → Shared → Prop} {s : Shared}

theorem set_new_led (a : Value) {Q₁ : Value → Shared → Prop}
    (h : Q₁ (.ref s.heap.objs.size) { s with heap := s.heap.push { cls := .type "set", dict := none, data := .set #[] 0 (.fresh 0 0 (!bt w)) } }) :
    codeAny (model prog w) A (.call (.builtin "set.__new__") ⟨[.type "set", a], []⟩) (wants Q₁ E) s := by
  refine codeAny_of_tree ?_
  show wpAny _ A.in1 (do checkBuiltinCall "set.__new__" ⟨[.type "set", a], []⟩; again (.builtin "set.__new__" ⟨[.type "set", a], []⟩)) _ _ s
  refine wpAny_bind (wpAny_of_eq (F.newCall_set_1 a) (wpAny_pure ⟨plainId_quiet F.plain_set_new _, codeAny_builtin F.entry_set_new ?_⟩))
  rw [Around.under_plainId F.plain_set_new _]
  unfold Builtin.«set.__new__» Builtin.Frozenset.newClass
  have hsub := sub_set_self
  obtain ⟨hp, g, d, tk, os⟩ := s
  dsimp only
  wp_walk
  refine wpAny_askSetting (wpAny_pure ?_)
  dsimp only
  simp only [newObj]
  refine wpAny_bind (wpAny_alloc (wpAny_pure ?_))
  exact wpAny_pure h

theorem setI_fresh (h : Heap) : SetI prog w (h.push { cls := .type "set", dict := none, data := .set #[] 0 (.fresh 0 0 (!bt w)) }) h.objs.size [] := by
  refine ⟨_, #[], 0, _, [], Heap.get?_push_size _ rfl, ⟨rfl, rfl, rfl⟩, rfl, fun e he => by simp at he, .nil, List.nodup_nil, fun k => Iff.rfl, by unfold scanBound; simp, rfl, ?_⟩
  refine ⟨?_, rfl, ?_⟩
  · unfold Rise SetTable.fresh; simp
  · unfold SetTable.fresh; dsimp only; cases bt w <;> simp

set_option maxHeartbeats 3200000 in
theorem call_setI {l : Addr} {items : Array Value} {ns : List Int} {Q : Value → Shared → Prop}
    (hh : A.handled = none) (hl : s.heap.IsList l items) (hi : IntsAre items.toList ns) (hb : items.size + 1 < scanBound)
    (h : ∀ (h' : Heap) (tk : Nat) (a : Addr), s.heap.get? a = none → SetI prog w h' a ns → (∀ b o, s.heap.get? b = some o → h'.get? b = some o) → Q (.ref a) { s with heap := h', toks := tk }) :
    wpAny (model prog w) A (call (.type "set") [.ref l]) Q E s := by
  have hnew : s.heap.get? s.heap.objs.size = none := by
    refine none_of fun o e => ?_
    exact absurd (Heap.lt_size e) (Nat.lt_irrefl _)
  obtain ⟨c, tl, hmro⟩ := F.called_set.mro
  have hmade := F.called_set.made
  have hsub := F.called_set.sub
  refine wpAny_call (codeAny_of_tree ?_)
  show wpAny _ _ (callAny (.type "set") _) _ _ _
  refine wpAny_pure ⟨Code.quiet_builtin _ (by decide +kernel), codeAny_builtin F.entry_type_call ?_⟩
  rw [Around.under_plain (weight_type_call_type "set" [.ref l] []) rfl]
  have h1 := F.called_set.notType
  have h2 := F.called_set.canCreate
  have hct := F.typeCall_set_1 (.ref l)
  repeat (any_goals (first | assumption | wp_step))
  refine codeAny_mono (set_new_led (.ref l) (E := E) (Q₁ := fun obj s₁ => obj = .ref s.heap.objs.size ∧ s₁ = { s with heap := s.heap.push { cls := .type "set", dict := none, data := .set #[] 0 (.fresh 0 0 (!bt w)) } }) ⟨rfl, rfl⟩) fun r s₁ hr => ?_
  cases r with
  | error e => exact hr
  | ok fl =>
    cases fl with
    | ret obj =>
      obtain ⟨rfl, rfl⟩ := hr
      have hS : (s.heap.push { cls := .type "set", dict := none, data := .set #[] 0 (.fresh 0 0 (!bt w)) }).get? s.heap.objs.size = some { cls := .type "set", dict := none, data := .set #[] 0 (.fresh 0 0 (!bt w)) } := Heap.get?_push_size _ rfl
      have hS0 := setI_fresh (prog := prog) (w := w) s.heap
      generalize hH : s.heap.push { cls := .type "set", dict := none, data := .set #[] 0 (.fresh 0 0 (!bt w)) } = H at hS hS0 ⊢
      have hHs : H.objs.size = s.heap.objs.size + 1 := by rw [← hH, Heap.size_push]
      have hT : Shared.TypeIs { s with heap := H } (.ref s.heap.objs.size) "set" := ⟨_, hS, rfl⟩
      have hli := F.called_set.init.lookup
      have hbi := F.called_set.init.bind (.ref s.heap.objs.size)
      repeat (any_goals (first | assumption | wp_step))
      refine codeAny_mono (codeAny_call_builtin (R := wants (fun r s₂ => r = .none ∧ ∃ h' tk, s₂ = { s with heap := h', toks := tk } ∧
          SetI prog w h' s.heap.objs.size ns ∧ (∀ b o, s.heap.get? b = some o → h'.get? b = some o)) E) F.called_set.init.plain F.entry_set_init (check_set_init_1 hT ?_)) fun r₂ s₂ hr₂ => ?_
      · obtain ⟨ol, hol, hcl, nl, hdl⟩ := hl
        obtain ⟨ocls, odict, odata, oslots⟩ := ol
        simp only at hcl hdl
        subst hcl; subst hdl
        have hk : ∀ b o, s.heap.get? b = some o → H.get? b = some o := fun b o e => hH ▸ Heap.get?_push_of_some _ e
        have hol' : H.get? l = some { cls := .type "list", dict := odict, data := .seq items nl, slots := oslots } := hk _ _ hol
        have hsls := F.sub_list_set
        have hslf := F.sub_list_frozenset
        have hne : (Value.type "list" == Value.type "dict") = false := by decide
        have hl1 : H.IsList l items := ⟨_, hol', rfl, nl, rfl⟩
        unfold Builtin.«set.__init__» noKeywords Builtin.Frozenset.updateFrom
        generalize hPI : pyIter = PI
        wp_walk
        subst hPI
        refine wpAny_pyIter_list hl1 ?_
        refine wpAny_bind (wpAny_runValue ?_)
        have hlS : l < s.heap.objs.size := Heap.lt_size hol
        have hh3 : A.in1.in1.in1.handled = none := by simp [hh]
        have hneI : l ≠ H.objs.size := by rw [hHs]; exact Nat.ne_of_lt (Nat.lt_succ_of_lt hlS)
        have hSf : s.heap.objs.size ∉ [H.objs.size, l] := by
          rw [hHs]; simp only [List.mem_cons, List.not_mem_nil, or_false, not_or]
          exact ⟨Nat.ne_of_lt (Nat.lt_succ_self _), Nat.ne_of_gt hlS⟩
        have hval : ∀ (i : Nat) (v : Value), items[i]? = some v → ∃ t, v = .int ((fun i => ns.getD i 0) i) t := fun i v hv =>
          IntsAre.int_at hi i v (by rw [Array.getElem?_toList]; exact hv)
        have hns : ((List.range items.size).map fun i => ns.getD i 0) = ns := by
          have hlen : items.size = ns.length := by have := hi.length; simpa using this
          rw [hlen]
          refine List.ext_getElem (by simp) fun i h1 h2 => ?_
          simp at h1
          simp [h1]
        refine update_loop (Walks.list hh3 _ l hneI items) s.heap.objs.size hSf (fun i => ns.getD i 0) hval hb (items.size - 0) 0 _ (by lia) (Nat.zero_le _)
          ⟨⟨_, Heap.get?_push_size _ rfl, rfl, rfl⟩, (hl1.push _)⟩ (hS0.at fun o e => Heap.get?_push_of_some _ e) fun h' tk' hm hS' => ?_
        rw [hns] at hS'
        show wpAny _ _ _ _ _ _
        refine wpAny_pure ?_
        show wpAny _ _ (ret Value.none) _ _ _
        refine wpAny_pure ⟨rfl, h', tk', rfl, hS', fun b o e => hm b o ?_ (Heap.get?_push_of_some _ (hk b o e))⟩
        have hb1 : b < s.heap.objs.size := Heap.lt_size e
        rw [hHs]
        simp only [List.mem_cons, List.not_mem_nil, or_false, not_or]
        exact ⟨Nat.ne_of_lt hb1, Nat.ne_of_lt (Nat.lt_succ_of_lt hb1)⟩
      · cases r₂ with
        | error e => exact hr₂
        | ok fl₂ =>
          cases fl₂ with
          | ret r =>
            obtain ⟨rfl, h', tk, rfl, hS', hk'⟩ := hr₂
            repeat (any_goals (first | assumption | wp_step))
            exact h _ _ _ hnew hS' hk'
          | _ => exact hr₂.elim
    | _ => exact hr.elim
end
end Mine
end

/-! # MS4 -/
section
set_option autoImplicit false
set_option maxRecDepth 100000
namespace Mine
open PySem PyProof.Rows

theorem slot_setiter_next : Slot "set_iterator" "__next__" "set_iterator.__next__" :=
  .of (owner := "set_iterator") (n := "__next__") (by rw [typeLookup_type, builtinLookup_eq_fast]; kernel_rfl) (by decide +kernel) (by decide +kernel) (by decide +kernel)
    (by first | exact .inl (by decide +kernel) | exact .inr (by decide +kernel)) (by rw [isSubtype_type]; kernel_rfl)
theorem slot_setiter_iter : Slot "set_iterator" "__iter__" "set_iterator.__iter__" :=
  .of (owner := "set_iterator") (n := "__iter__") (by rw [typeLookup_type, builtinLookup_eq_fast]; kernel_rfl) (by decide +kernel) (by decide +kernel) (by decide +kernel)
    (by first | exact .inl (by decide +kernel) | exact .inr (by decide +kernel)) (by rw [isSubtype_type]; kernel_rfl)
theorem entry_setiter_next : entryFor table "set_iterator.__next__" = some Builtin.«set_iterator.__next__» := entryFor_of_tree (by kernel_rfl)
theorem args_setiter_next (a : Value) : argsOk "set_iterator.__next__" ⟨[a], []⟩ := by unfold argsOk; kernel_rfl
theorem entry_set_iter : entryFor table "set.__iter__" = some Builtin.«frozenset.__iter__» :=
  entryFor_alias (id' := "frozenset.__iter__") (by kernel_rfl) rfl (by decide +kernel) (by kernel_rfl)

abbrev setIt (first : Value) (i : Int) (s : Value) (n ep : Int) : Obj := { cls := .type "set_iterator", data := .fields #[first, rawInt i, s, rawInt n, rawInt ep] }

/-- a set that stays as it is -/
structure Held (w : World) (h : Heap) (a : Addr) (o : Obj) (es : Array (Int × Value)) (ep : Nat) (t : SetTable) : Prop where
  at_ : h.get? a = some o
  exact_ : o.ExactSet
  data : o.data = .set es ep t
  fits : t.fits es.size = true
  ok : TOk (bt w) t

section
variable {prog : Program} {w : World} {A : Around} {E : Value → Shared → Prop} {s : Shared}

/-- the end of a set's walk -/
theorem setNext_stop {I : Addr} {fs : Array Value} {Q : Option Value → Shared → Prop} (hh : A.handled = none) (hI : s.heap.get? I = some { cls := .type "set_iterator", data := .fields fs }) (hk : 2 < fs.size)
    (hbody : ∀ (E' : Value → Shared → Prop) (Q' : PySem.Fin → Shared → Prop), wpAny (model prog w) A.in1 (do setField (.ref I) 2 .none; raiseNew (← newExc (.type "StopIteration") [])) Q' E' s → wpAny (model prog w) A.in1 (Builtin.«set_iterator.__next__» ⟨[.ref I], []⟩) Q' E' s)
    (hQ : ∀ h', Heap.ExtBut I s.heap h' → Q none { s with heap := h' }) : wpAny (model prog w) A (pyNext (.ref I)) Q E s := by
  have hT : s.TypeIs (.ref I) "set_iterator" := ⟨_, hI, rfl⟩
  unfold pyNext
  refine wpAny_bind (wpAny_attempt (wpAny_callSpecial?_slot (name := Str.ofString "__next__") hT slot_setiter_next (wpAny_call_entry slot_setiter_next hT entry_setiter_next (hbody _ _ ?_) (args_setiter_next _))))
  refine wpAny_bind (wpAny_setField hI rfl hk ?_)
  show wpAny _ _ (newExc (.type "StopIteration") [] >>= _) _ _ _
  refine wpAny_bind ?_
  simp only [newExc, newTuple]
  refine wpAny_bind (wpAny_newObj_type ?_ (by size_fits))
  refine wpAny_bind (m := firstArgMember _ _) (wpAny_of_eq (a := Value.none) (by first | rfl | (simp only [firstArgMember]; rfl)) ?_)
  refine wpAny_newObj_type ?_ (by size_fits)
  simp only [raiseNew]
  refine wpAny_bind (wpAny_handled ?_)
  rw [show A.in1.handled = none from hh]
  refine wpAny_bind (wpAny_pure (wpAny_throw ?_))
  refine wpAny_bind (wpAny_isInstance (T := "StopIteration") (b := true) ⟨_, Heap.get?_push_size _ rfl, rfl⟩ isSubtype_stop ?_)
  exact wpAny_pure (hQ _ (((Heap.SameBut.update ..).extBut.push _).push _))

/-- one step by the slots -/
theorem next_slot {I a : Addr} {o : Obj} {es : Array (Int × Value)} {ep : Nat} {t : SetTable} {slot i next : Nat} {x : Value} {Q : Option Value → Shared → Prop} (H : Held w s.heap a o es ep t)
    (hI : s.heap.get? I = some (setIt (rawInt slot) i (.ref a) es.size ep))
    (hn : ∀ (Q' : Option (Value × Nat) → Shared → Prop) (E' : Value → Shared → Prop), Q' (some (x, next)) s → wpAny (model prog w) A.in1 (setNext a slot i ep) Q' E' s)
    (hQ : ∀ h', h'.get? I = some (setIt (rawInt next) (i + 1 : Nat) (.ref a) es.size ep) → Heap.SameBut I s.heap h' → Q (some x) { s with heap := h' }) : wpAny (model prog w) A (pyNext (.ref I)) Q E s := by
  have hT : s.TypeIs (.ref I) "set_iterator" := ⟨_, hI, rfl⟩
  unfold pyNext
  refine wpAny_bind (wpAny_attempt (wpAny_callSpecial?_slot (name := Str.ofString "__next__") hT slot_setiter_next (wpAny_call_entry slot_setiter_next hT entry_setiter_next ?_ (args_setiter_next _))))
  unfold Builtin.«set_iterator.__next__»
  refine wpAny_bind (m := slotArgs "__next__" 0 _) (wpAny_pure ?_)
  refine wpAny_bind (wpAny_fieldsOf hI rfl ?_)
  show wpAny _ _ (setEntries a >>= _) _ _ s
  refine wpAny_bind (wpAny_setEntries_of H.at_ H.data H.fits ?_)
  show wpAny _ _ (if ((es.size : Int) != (es.size : Int)) = true then _ else _) _ _ s
  rw [if_neg (by simp)]
  show wpAny _ _ (setNext a (slot : Int).toNat (i : Int).toNat (ep : Int).toNat >>= _) _ _ s
  simp only [Int.toNat_natCast]
  refine wpAny_bind (hn _ _ ?_)
  refine wpAny_bind (wpAny_setField hI rfl (by simp) ?_)
  have h1 := Heap.get?_update_self (Obj.mapFields (·.setIfInBounds 0 (rawInt next))) hI rfl
  refine wpAny_bind (wpAny_setField h1 rfl (by simp [Obj.mapFields]) ?_)
  have h2 := Heap.get?_update_self (Obj.mapFields (·.setIfInBounds 1 (rawInt ((i : Int) + 1)))) h1 rfl
  exact wpAny_pure ⟨x, rfl, wpAny_pure (hQ _ (by rw [h2]; simp [Obj.mapFields, setIt]) ((Heap.SameBut.update ..).trans (Heap.SameBut.update ..)))⟩

theorem stop_slot {I a : Addr} {o : Obj} {es : Array (Int × Value)} {ep : Nat} {t : SetTable} {slot i : Nat} {Q : Option Value → Shared → Prop} (hh : A.handled = none) (H : Held w s.heap a o es ep t)
    (hI : s.heap.get? I = some (setIt (rawInt slot) i (.ref a) es.size ep))
    (hn : ∀ (Q' : Option (Value × Nat) → Shared → Prop) (E' : Value → Shared → Prop), Q' none s → wpAny (model prog w) A.in1 (setNext a slot i ep) Q' E' s)
    (hQ : ∀ h', Heap.ExtBut I s.heap h' → Q none { s with heap := h' }) : wpAny (model prog w) A (pyNext (.ref I)) Q E s := by
  refine setNext_stop hh hI (by simp) (fun E' Q' hq => ?_) hQ
  unfold Builtin.«set_iterator.__next__»
  refine wpAny_bind (m := slotArgs "__next__" 0 _) (wpAny_pure ?_)
  refine wpAny_bind (wpAny_fieldsOf hI rfl ?_)
  show wpAny _ _ (setEntries a >>= _) _ _ s
  refine wpAny_bind (wpAny_setEntries_of H.at_ H.data H.fits ?_)
  show wpAny _ _ (if ((es.size : Int) != (es.size : Int)) = true then _ else _) _ _ s
  rw [if_neg (by simp)]
  show wpAny _ _ (setNext a (slot : Int).toNat (i : Int).toNat (ep : Int).toNat >>= _) _ _ s
  simp only [Int.toNat_natCast]
  refine wpAny_bind (hn _ _ ?_)
  exact hq

/-- one step by a drawn order -/
theorem next_drawn {I a T : Addr} {oT o : Obj} {es : Array (Int × Value)} {ep nT : Nat} {t : SetTable} {i p : Nat} {ps : Array Value} {x : Int × Value} {Q : Option Value → Shared → Prop} (H : Held w s.heap a o es ep t)
    (hI : s.heap.get? I = some (setIt (.ref T) i (.ref a) es.size ep)) (hT' : s.heap.get? T = some oT) (hTd : oT.data = .seq ps nT) (hp : ps[i]? = some (rawInt p)) (hx : es[p]? = some x)
    (hQ : ∀ h', h'.get? I = some (setIt (.ref T) (i + 1 : Nat) (.ref a) es.size ep) → Heap.SameBut I s.heap h' → Q (some x.2) { s with heap := h' }) : wpAny (model prog w) A (pyNext (.ref I)) Q E s := by
  have hT : s.TypeIs (.ref I) "set_iterator" := ⟨_, hI, rfl⟩
  unfold pyNext
  refine wpAny_bind (wpAny_attempt (wpAny_callSpecial?_slot (name := Str.ofString "__next__") hT slot_setiter_next (wpAny_call_entry slot_setiter_next hT entry_setiter_next ?_ (args_setiter_next _))))
  unfold Builtin.«set_iterator.__next__»
  refine wpAny_bind (m := slotArgs "__next__" 0 _) (wpAny_pure ?_)
  refine wpAny_bind (wpAny_fieldsOf hI rfl ?_)
  show wpAny _ _ (setEntries a >>= _) _ _ s
  refine wpAny_bind (wpAny_setEntries_of H.at_ H.data H.fits ?_)
  show wpAny _ _ (if ((es.size : Int) != (es.size : Int)) = true then _ else _) _ _ s
  rw [if_neg (by simp)]
  show wpAny _ _ (seqItems? (.ref T) >>= _) _ _ s
  refine wpAny_bind (wpAny_seqItems hT' hTd ?_)
  dsimp only
  rw [show ps[(i : Int).toNat]? = some (rawInt p) from by simpa using hp]
  show wpAny _ _ (setNextDrawn a (p : Int).toNat (ep : Int).toNat >>= _) _ _ s
  simp only [Int.toNat_natCast]
  unfold setNextDrawn
  refine wpAny_bind (wpAny_bind (wpAny_setState_of H.at_ H.data H.fits ?_))
  dsimp only
  rw [if_neg (by simp), hx]
  refine wpAny_pure ?_
  refine wpAny_bind (wpAny_setField hI rfl (by simp) ?_)
  have h2 := Heap.get?_update_self (Obj.mapFields (·.setIfInBounds 1 (rawInt ((i : Int) + 1)))) hI rfl
  exact wpAny_pure ⟨x.2, rfl, wpAny_pure (hQ _ (by rw [h2]; simp [Obj.mapFields, setIt]) (Heap.SameBut.update ..))⟩

theorem stop_drawn {I a T : Addr} {oT o : Obj} {es : Array (Int × Value)} {ep nT : Nat} {t : SetTable} {i : Nat} {ps : Array Value} {Q : Option Value → Shared → Prop} (hh : A.handled = none) (H : Held w s.heap a o es ep t)
    (hI : s.heap.get? I = some (setIt (.ref T) i (.ref a) es.size ep)) (hT' : s.heap.get? T = some oT) (hTd : oT.data = .seq ps nT) (hp : ps[i]? = none)
    (hQ : ∀ h', Heap.ExtBut I s.heap h' → Q none { s with heap := h' }) : wpAny (model prog w) A (pyNext (.ref I)) Q E s := by
  have hT : s.TypeIs (.ref I) "set_iterator" := ⟨_, hI, rfl⟩
  unfold pyNext
  refine wpAny_bind (wpAny_attempt (wpAny_callSpecial?_slot (name := Str.ofString "__next__") hT slot_setiter_next (wpAny_call_entry slot_setiter_next hT entry_setiter_next ?_ (args_setiter_next _))))
  unfold Builtin.«set_iterator.__next__»
  refine wpAny_bind (m := slotArgs "__next__" 0 _) (wpAny_pure ?_)
  refine wpAny_bind (wpAny_fieldsOf hI rfl ?_)
  show wpAny _ _ (setEntries a >>= _) _ _ s
  refine wpAny_bind (wpAny_setEntries_of H.at_ H.data H.fits ?_)
  show wpAny _ _ (if ((es.size : Int) != (es.size : Int)) = true then _ else _) _ _ s
  rw [if_neg (by simp)]
  show wpAny _ _ (seqItems? (.ref T) >>= _) _ _ s
  refine wpAny_bind (wpAny_seqItems hT' hTd ?_)
  dsimp only
  rw [show ps[(i : Int).toNat]? = none from by simpa using hp]
  dsimp only
  refine wpAny_bind (wpAny_setField hI rfl (by simp) ?_)
  have h1 := Heap.get?_update_self (Obj.mapFields (·.setIfInBounds 0 (rawInt 0))) hI rfl
  refine wpAny_bind (wpAny_setField h1 rfl (by simp [Obj.mapFields]) ?_)
  show wpAny _ _ (newExc (.type "StopIteration") [] >>= _) _ _ _
  refine wpAny_bind ?_
  simp only [newExc, newTuple]
  refine wpAny_bind (wpAny_newObj_type ?_ (by size_fits))
  refine wpAny_bind (m := firstArgMember _ _) (wpAny_of_eq (a := Value.none) (by first | rfl | (simp only [firstArgMember]; rfl)) ?_)
  refine wpAny_newObj_type ?_ (by size_fits)
  simp only [raiseNew]
  refine wpAny_bind (wpAny_handled ?_)
  rw [show A.in1.handled = none from hh]
  refine wpAny_bind (wpAny_pure (wpAny_throw ?_))
  refine wpAny_bind (wpAny_isInstance (T := "StopIteration") (b := true) ⟨_, Heap.get?_push_size _ rfl, rfl⟩ isSubtype_stop ?_)
  exact wpAny_pure (hQ _ ((((Heap.SameBut.update ..).trans (Heap.SameBut.update ..)).extBut.push _).push _))
end
end Mine
end

/-! # MS5 -/
section
set_option autoImplicit false
set_option maxRecDepth 100000
namespace Mine
open PySem PyProof.Rows

theorem entry_setiter_iter : entryFor table "set_iterator.__iter__" = some Builtin.«dict_keyiterator.__iter__» :=
  entryFor_alias (id' := "dict_keyiterator.__iter__") (by kernel_rfl) rfl (by decide +kernel) (by kernel_rfl)
theorem args_setiter_iter (a : Value) : argsOk "set_iterator.__iter__" ⟨[a], []⟩ := by unfold argsOk; kernel_rfl

section
variable {prog : Program} {w : World} {A : Around} {E : Value → Shared → Prop} {s : Shared}

theorem iter_self {I : Addr} {fs : Array Value} {Q : Value → Shared → Prop} (hI : s.heap.get? I = some { cls := .type "set_iterator", data := .fields fs }) (hQ : Q (.ref I) s) : wpAny (model prog w) A (pyIter (.ref I)) Q E s := by
  have hT : s.TypeIs (.ref I) "set_iterator" := ⟨_, hI, rfl⟩
  refine wpAny_pyIter_slot hT slot_setiter_iter (wpAny_call_entry slot_setiter_iter hT entry_setiter_iter ?_ (args_setiter_iter _))
  show wpAny _ _ (ret (.ref I)) _ _ s
  exact wpAny_pure ⟨_, rfl, "set_iterator", _, hT, slot_setiter_next.lookup, hQ⟩

theorem choose_at {src : Source} {n : Nat} {Q : Nat → Shared → Prop} (hn : n ≠ 0) (h : Q (w.draws src (s.drawn.get src) % n) { s with drawn := s.drawn.bump src }) : wpAny (model prog w) A (choose src n) Q E s :=
  fun _ _ _ => ⟨hn, h⟩

theorem drawOrder_at {α : Type} : ∀ (n : Nat) (xs : List α) (s : Shared) {Q : List α → Shared → Prop}, xs.length = n → (∀ l dr, l.Perm xs → Q l { s with drawn := dr }) → wpAny (model prog w) A (drawOrder n xs) Q E s
  | 0, xs, s, Q, hn, h => by
    have : xs = [] := List.eq_nil_of_length_eq_zero hn
    subst this
    unfold drawOrder
    exact wpAny_pure (h [] s.drawn .nil)
  | n + 1, [], s, Q, hn, h => by cases hn
  | n + 1, x :: xs, s, Q, hn, h => by
    unfold drawOrder
    refine wpAny_bind (choose_at (by simp) ?_)
    generalize hi : w.draws .order (s.drawn.get .order) % (x :: xs).length = i
    have hlt : i < (x :: xs).length := hi ▸ Nat.mod_lt _ (by simp)
    have e : (x :: xs)[i]? = some ((x :: xs)[i]) := List.getElem?_eq_getElem hlt
    rw [e]
    dsimp only
    refine wpAny_bind (drawOrder_at n _ _ (by rw [List.length_eraseIdx_of_lt hlt]; simp at hn ⊢; lia) fun l dr hl => wpAny_pure ?_)
    exact h _ dr ((hl.cons _).trans (erase_perm hlt))

theorem setNext_text {a : Addr} {o : Obj} {es : Array (Int × Value)} {ep slot i : Nat} {t : SetTable} {Q : Option (Value × Nat) → Shared → Prop} (H : Held w s.heap a o es ep t) (hb : bt w = true)
    (h : Q (((pickOrder (w.params.setOrder a ep) es)[i]?).map fun e => (e.2, slot)) s) : wpAny (model prog w) A (setNext a slot i ep) Q E s := by
  unfold setNext
  refine wpAny_bind (wpAny_setState_of H.at_ H.data H.fits ?_)
  dsimp only
  refine wpAny_bind (byText_at ?_)
  rw [hb]
  simp only [if_true]
  rw [if_neg (by simp)]
  refine wpAny_bind ?_
  unfold setWalk
  refine wpAny_bind (wpAny_setState_of H.at_ H.data H.fits ?_)
  dsimp only
  refine wpAny_bind (byText_at ?_)
  rw [hb]
  simp only [if_true]
  exact wpAny_bind (wpAny_askSetting (wpAny_pure (wpAny_pure h)))

theorem setNext_slots {a : Addr} {o : Obj} {es : Array (Int × Value)} {ep slot i : Nat} {t : SetTable} {Q : Option (Value × Nat) → Shared → Prop} (H : Held w s.heap a o es ep t) (hb : bt w = false) (hd : (!t.plain && decide (es.size > 1)) = false)
    (h : Q (match es[SetTable.below t.place slot]?, t.place[SetTable.below t.place slot]? with | some (_, x), some j => some (x, j + 1) | _, _ => none) s) : wpAny (model prog w) A (setNext a slot i ep) Q E s := by
  unfold setNext
  refine wpAny_bind (wpAny_setState_of H.at_ H.data H.fits ?_)
  dsimp only
  refine wpAny_bind (byText_at ?_)
  rw [hb]
  simp only [Bool.false_eq_true, if_false]
  have hled : t.led = true := H.ok.led.resolve_right (by rw [hb]; decide)
  show wpAny _ _ (if (!t.plain && decide (es.size > 1)) = true then _ else _) _ _ s
  rw [hd]
  simp only [Bool.false_eq_true, if_false]
  refine wpAny_bind ?_
  show wpAny _ _ (if (!t.led && !es.isEmpty) = true then _ else _) _ _ s
  rw [hled]
  simp only [Bool.not_true, Bool.false_and, Bool.false_eq_true, if_false]
  exact wpAny_pure (wpAny_pure h)
end

/-! ## the three walks -/
theorem Held.at' {w : World} {h h' : Heap} {a : Addr} {o : Obj} {es : Array (Int × Value)} {ep : Nat} {t : SetTable} (H : Held w h a o es ep t) (k : ∀ o, h.get? a = some o → h'.get? a = some o) : Held w h' a o es ep t :=
  ⟨k o H.at_, H.exact_, H.data, H.fits, H.ok⟩

section
variable {prog : Program} {w : World} {A : Around}

theorem walks_text (hh : A.handled = none) (I a : Addr) (hne : a ≠ I) (o : Obj) (es : Array (Int × Value)) (ep : Nat) (t : SetTable) (hb : bt w = true) :
    Walks prog w A I [I, a] [I] es.size (fun i v => ∃ e, (pickOrder (w.params.setOrder a ep) es)[i]? = some e ∧ v = e.2)
      (fun i h => h.get? I = some (setIt (rawInt (0 : Nat)) i (.ref a) es.size ep) ∧ Held w h a o es ep t) where
  sub := fun b hb => by simp at hb; simp [hb]
  frame := fun _ _ _ st hk => ⟨hk I (by simp) _ st.1, st.2.at' fun o e => hk a (by simp) o e⟩
  item := fun i s Q E hi st hQ => by
    have hsz : (pickOrder (w.params.setOrder a ep) es).size = es.size := by
      have := (pickOrder_perm (w.params.setOrder a ep) es).length_eq; simpa using this
    have e : (pickOrder (w.params.setOrder a ep) es)[i]? = some ((pickOrder (w.params.setOrder a ep) es)[i]'(by lia)) := by simp [hsz, hi]
    refine next_slot st.2 st.1 (fun Q' E' hq => setNext_text st.2 hb (by rw [e]; exact hq)) fun h' hI' hs' => ?_
    exact hQ _ h' s.toks ⟨_, e, rfl⟩ ⟨hI', st.2.at' fun o e => hs'.extBut a o hne e⟩ fun b o hb e => hs'.extBut b o (fun h => hb (by simp [h])) e
  done := fun s Q E st hQ => by
    have hsz : (pickOrder (w.params.setOrder a ep) es).size = es.size := by
      have := (pickOrder_perm (w.params.setOrder a ep) es).length_eq; simpa using this
    refine stop_slot hh st.2 st.1 (fun Q' E' hq => setNext_text st.2 hb (by rw [Array.getElem?_eq_none (by lia)]; exact hq)) fun h' he => ?_
    exact hQ h' s.toks fun b o hb e => he b o (fun h => hb (by simp [h])) e
  self := fun i s Q E st hQ => iter_self st.1 hQ

theorem walks_slots (hh : A.handled = none) (I a : Addr) (hne : a ≠ I) (o : Obj) (es : Array (Int × Value)) (ep : Nat) (t : SetTable) (hb : bt w = false) (hd : (!t.plain && decide (es.size > 1)) = false) :
    Walks prog w A I [I, a] [I] es.size (fun i v => ∃ e, es[i]? = some e ∧ v = e.2)
      (fun i h => h.get? I = some (setIt (rawInt ((if i = 0 then 0 else t.place.getD (i - 1) 0 + 1 : Nat))) i (.ref a) es.size ep) ∧ Held w h a o es ep t) where
  sub := fun b hb => by simp at hb; simp [hb]
  frame := fun _ _ _ st hk => ⟨hk I (by simp) _ st.1, st.2.at' fun o e => hk a (by simp) o e⟩
  item := fun i s Q E hi st hQ => by
    have hsz : t.place.size = es.size := by
      have := st.2.fits; simp only [SetTable.fits, Bool.and_eq_true, beq_iff_eq] at this; exact this.1
    have hw := walk_at st.2.ok.rise i (by lia)
    have e : es[i]? = some (es[i]) := by simp [hi]
    have ep' : t.place[i]? = some (t.place[i]'(by lia)) := by simp [hsz, hi]
    refine next_slot (x := (es[i]).2) (next := t.place.getD i 0 + 1) st.2 st.1 (fun Q' E' hq => setNext_slots st.2 hb hd ?_) fun h' hI' hs' => ?_
    · rw [hw, e, ep']
      have : t.place.getD i 0 = t.place[i]'(by lia) := by simp [Array.getD, hsz, hi]
      rw [← this]; exact hq
    · refine hQ _ h' s.toks ⟨_, e, rfl⟩ ⟨?_, st.2.at' fun o e => hs'.extBut a o hne e⟩ fun b o hb e => hs'.extBut b o (fun h => hb (by simp [h])) e
      simpa using hI'
  done := fun s Q E st hQ => by
    have hsz : t.place.size = es.size := by
      have := st.2.fits; simp only [SetTable.fits, Bool.and_eq_true, beq_iff_eq] at this; exact this.1
    have hw := walk_at st.2.ok.rise es.size (by lia)
    refine stop_slot hh st.2 st.1 (fun Q' E' hq => setNext_slots st.2 hb hd ?_) fun h' he => ?_
    · rw [hw, Array.getElem?_eq_none (Nat.le_refl _)]; exact hq
    · exact hQ h' s.toks fun b o hb e => he b o (fun h => hb (by simp [h])) e
  self := fun i s Q E st hQ => iter_self st.1 hQ

theorem walks_drawn (hh : A.handled = none) (I a T : Addr) (hne : a ≠ I) (hneT : T ≠ I) (o oT : Obj) (nT : Nat) (es : Array (Int × Value)) (ep : Nat) (t : SetTable) (l : List Nat) (hl : l.Perm (List.range es.size)) (hTd : oT.data = .seq (l.map fun i : Nat => rawInt i).toArray nT) :
    Walks prog w A I [I, a, T] [I] es.size (fun i v => ∃ p e, l[i]? = some p ∧ es[p]? = some e ∧ v = e.2)
      (fun i h => h.get? I = some (setIt (.ref T) i (.ref a) es.size ep) ∧ Held w h a o es ep t ∧ h.get? T = some oT) where
  sub := fun b hb => by simp at hb; simp [hb]
  frame := fun _ _ _ st hk => ⟨hk I (by simp) _ st.1, st.2.1.at' fun o e => hk a (by simp) o e, hk T (by simp) _ st.2.2⟩
  item := fun i s Q E hi st hQ => by
    have hlen : l.length = es.size := by simpa using hl.length_eq
    have hil : i < l.length := by lia
    have hp : l[i] < es.size := by simpa using hl.mem_iff.mp (List.getElem_mem hil)
    have e : es[l[i]]? = some (es[l[i]]) := by simp [hp]
    have e2 : ((l.map fun i : Nat => rawInt i).toArray)[i]? = some (rawInt (l[i] : Nat)) := by simp [hil]
    refine next_drawn st.2.1 st.1 st.2.2 hTd e2 e fun h' hI' hs' => ?_
    exact hQ _ h' s.toks ⟨_, _, by simp [hil], e, rfl⟩ ⟨hI', st.2.1.at' fun o e => hs'.extBut a o hne e, hs'.extBut T _ hneT st.2.2⟩ fun b o hb e => hs'.extBut b o (fun h => hb (by simp [h])) e
  done := fun s Q E st hQ => by
    have hlen : l.length = es.size := by simpa using hl.length_eq
    refine stop_drawn hh st.2.1 st.1 st.2.2 hTd (by simp [hlen]) fun h' he => ?_
    exact hQ h' s.toks fun b o hb e => he b o (fun h => hb (by simp [h])) e
  self := fun i s Q E st hQ => iter_self st.1 hQ
end
end Mine
end

/-! # MS6 -/
section
set_option autoImplicit false
set_option maxRecDepth 100000
namespace Mine
open PySem PyProof.Rows

section
variable {prog : Program} {w : World} {A : Around} {E : Value → Shared → Prop} {s : Shared}

theorem filterMap_map_of {α β : Type} {f : α → Option β} {g : α → β} : ∀ {l : List α}, (∀ x ∈ l, f x = some (g x)) → l.filterMap f = l.map g
  | [], _ => rfl
  | x :: l, h => by rw [List.filterMap_cons_some (h x (.head _)), filterMap_map_of fun y hy => h y (.tail _ hy)]; rfl

/-- what a set's walk yields -/
def Yields (P : Nat → Value → Prop) (n : Nat) (vs : List Value) : Prop := ∀ acc : Array Value, ItemsOf P acc n → acc.toList.Perm vs

theorem iter_set {a : Addr} {o : Obj} {es : Array (Int × Value)} {ep : Nat} {t : SetTable} {Q : Value → Shared → Prop} (hh : A.handled = none) (H : Held w s.heap a o es ep t) (hsz : es.size < scanBound)
    (hQ : ∀ I fp P St h' dr, Walks prog w A I fp [I] es.size P St → St 0 h' → (∀ b o, s.heap.get? b = some o → h'.get? b = some o) → s.heap.get? I = none → (∀ b ∈ fp, b < h'.objs.size) → s.heap.objs.size ≤ I → (∀ b ∈ fp, b = a ∨ s.heap.objs.size ≤ b) →
      Yields P es.size (es.toList.map (·.2)) → Q (.ref I) { s with heap := h', drawn := dr }) : wpAny (model prog w) A (pyIter (.ref a)) Q E s := by
  have hT : s.TypeIs (.ref a) "set" := ⟨o, H.at_, H.exact_.1⟩
  have ha : a < s.heap.objs.size := Heap.lt_size H.at_
  have hnew : ∀ b : Nat, s.heap.objs.size ≤ b → s.heap.get? b = none := fun b hb => by
    refine none_of fun o e => ?_
    exact absurd (Heap.lt_size e) (Nat.not_lt.mpr hb)
  refine wpAny_pyIter_slot hT F.slot_set_iter (wpAny_call_entry F.slot_set_iter hT entry_set_iter ?_ (F.args_set_iter_1 _))
  unfold Builtin.«frozenset.__iter__» Builtin.Frozenset.slot0 slotArgs
  simp only [List.isEmpty_nil, Bool.not_true, Bool.false_eq_true, ↓reduceIte, bind_assoc, List.length_nil, bne_self_eq_false]
  unfold Builtin.Frozenset.addrOf Builtin.Frozenset.sizeOf
  refine wpAny_bind (wpAny_pure ?_)
  try dsimp only
  refine wpAny_bind (wpAny_pure ?_)
  refine wpAny_bind (wpAny_bind (wpAny_setEntries_of H.at_ H.data H.fits (wpAny_pure ?_)))
  refine wpAny_bind ?_
  unfold setDrawn
  refine wpAny_bind (wpAny_setState_of H.at_ H.data H.fits ?_)
  dsimp only
  refine wpAny_bind (byText_at (wpAny_pure ?_))
  show wpAny _ _ (if (!bt w && (!t.plain && decide (es.size > 1))) = true then _ else _) _ _ s
  -- what is done with the first field
  have fin : ∀ (first : Value) (h₁ : Heap) (dr : Drawn), (∀ b o, s.heap.get? b = some o → h₁.get? b = some o) →
      (∀ I h', I = h₁.objs.size → h' = h₁.push (setIt first (0 : Nat) (.ref a) es.size ep) → Q (.ref I) { s with heap := h', drawn := dr }) →
      wpAny (model prog w) A.in1 (do
        let epv ← setEpoch a
        let r ← newFields "set_iterator" [first, rawInt 0, .ref a, rawInt es.size, rawInt epv]
        ret r) (fun fin s' => ∃ v, fin = .done (.ret v) ∧ ∃ T' r, s'.TypeIs v T' ∧ typeLookup (.type T') "__next__" = pure (some r) ∧ Q v s') E { s with heap := h₁, drawn := dr } := by
    intro first h₁ dr hk hq
    refine wpAny_bind (wpAny_setEpoch_of (hk _ _ H.at_) H.data H.fits ?_)
    refine wpAny_bind (wpAny_newObj_type (wpAny_pure ⟨_, rfl, "set_iterator", _, ⟨_, Heap.get?_push_size _ rfl, rfl⟩, slot_setiter_next.lookup, ?_⟩))
    exact hq _ _ rfl rfl
  have hx : ∀ {P : Nat → Value → Prop} {vs : List Value} {n : Nat}, vs.length = n → (∀ i v, P i v → vs[i]? = some v) → Yields P n vs := by
    intro P vs n hn hp acc hacc
    have : acc.toList = vs := by
      refine List.ext_getElem? fun i => ?_
      by_cases hi : i < n
      · have hia : i < acc.size := by rw [hacc.1]; exact hi
        have e : acc[i]? = some acc[i] := by simp [hia]
        have := hp i _ (hacc.2 i _ e)
        rw [this]; simp [hia]
      · rw [List.getElem?_eq_none (by rw [Array.length_toList, hacc.1]; omega), List.getElem?_eq_none (by omega)]
    rw [this]
  by_cases hd : (!bt w && (!t.plain && decide (es.size > 1))) = true
  · rw [if_pos hd]
    refine wpAny_bind (drawOrder_at es.size (List.range es.size) s (by simp) fun l dr hl => ?_)
    refine wpAny_bind <| wpAny_newTuple (items := l.map fun i : Nat => rawInt i) ?_ (fits_of_scanBound (by rw [List.length_map, hl.length_eq, List.length_range]; exact hsz))
    generalize hH : s.heap.push { cls := .type "tuple", data := .seq (l.map fun i : Nat => rawInt i).toArray } = H₁
    have hHs : H₁.objs.size = s.heap.objs.size + 1 := by rw [← hH, Heap.size_push]
    have hT₁ : H₁.get? s.heap.objs.size = some { cls := .type "tuple", data := .seq (l.map fun i : Nat => rawInt i).toArray } := hH ▸ Heap.get?_push_size _ rfl
    have hk₁ : ∀ b o, s.heap.get? b = some o → H₁.get? b = some o := fun b o e => hH ▸ Heap.get?_push_of_some _ e
    refine fin _ H₁ dr hk₁ fun I h' hI hh' => ?_
    subst hI hh'
    have hlen : l.length = es.size := by simpa using hl.length_eq
    refine hQ _ _ _ _ _ dr (walks_drawn hh H₁.objs.size a s.heap.objs.size (by rw [hHs]; exact Nat.ne_of_lt (Nat.lt_succ_of_lt ha)) (by rw [hHs]; exact Nat.ne_of_lt (Nat.lt_succ_self _)) o _ 0 es ep t l hl rfl)
      ⟨Heap.get?_push_size _ rfl, H.at' fun o e => Heap.get?_push_of_some _ (hk₁ a o e), Heap.get?_push_of_some _ hT₁⟩ (fun b o e => Heap.get?_push_of_some _ (hk₁ b o e)) (hnew _ (by rw [hHs]; exact Nat.le_succ _)) ?_ (by rw [hHs]; exact Nat.le_succ _) ?_ ?_
    · intro b hb
      rw [Heap.size_push, hHs]
      simp at hb
      rcases hb with rfl | rfl | rfl
      · rw [hHs]; exact Nat.lt_succ_self _
      · exact Nat.lt_succ_of_lt (Nat.lt_succ_of_lt ha)
      · exact Nat.lt_succ_of_lt (Nat.lt_succ_self _)
    · intro b hb
      simp at hb
      rcases hb with rfl | rfl | rfl
      · right; rw [hHs]; exact Nat.le_succ _
      · exact .inl rfl
      · right; exact Nat.le_refl _
    · intro acc hacc
      have e : acc.toList = l.filterMap fun p => (es[p]?).map (·.2) := by
        have : l.filterMap (fun p => (es[p]?).map (·.2)) = l.map fun p => (es.getD p (0, .none)).2 := by
          refine filterMap_map_of fun p hp => ?_
          have hp' : p < es.size := by simpa using hl.mem_iff.mp hp
          simp [Array.getD, hp']
        rw [this]
        refine List.ext_getElem (by simp [hacc.1, hlen]) fun i h1 h2 => ?_
        have hia : i < acc.size := by simpa using h1
        have e : acc[i]? = some acc[i] := by simp [hia]
        obtain ⟨p, e', q1, q2, q3⟩ := hacc.2 i _ e
        have hil : i < l.length := by simpa using h2
        simp only [Array.getElem_toList, List.getElem_map]
        rw [q3]
        have : l[i] = p := by rw [List.getElem?_eq_getElem hil] at q1; exact Option.some.inj q1
        rw [this]
        obtain ⟨hp, rfl⟩ := Array.getElem?_eq_some_iff.mp q2
        simp [Array.getD, hp]
      rw [e]
      have := hl.filterMap fun p => (es[p]?).map (·.2)
      refine this.trans (List.Perm.of_eq ?_)
      have h2 := filterMap_getElem?_range es
      rw [← h2, List.map_filterMap]
  · rw [if_neg hd]
    refine wpAny_bind (wpAny_pure ?_)
    have hk₁ : ∀ b o, s.heap.get? b = some o → s.heap.get? b = some o := fun b o e => e
    refine fin _ s.heap s.drawn hk₁ fun I h' hI hh' => ?_
    subst hI hh'
    have hne : a ≠ s.heap.objs.size := Nat.ne_of_lt ha
    have hfp : ∀ b ∈ [s.heap.objs.size, a], b < (s.heap.push (setIt (rawInt 0) (0 : Nat) (.ref a) es.size ep)).objs.size := fun b hb => by
      rw [Heap.size_push]
      simp at hb
      rcases hb with rfl | rfl
      · exact Nat.lt_succ_self _
      · exact Nat.lt_succ_of_lt ha
    have hfp2 : ∀ b ∈ [s.heap.objs.size, a], b = a ∨ s.heap.objs.size ≤ b := fun b hb => by
      simp at hb
      rcases hb with rfl | rfl
      · exact .inr (Nat.le_refl _)
      · exact .inl rfl
    cases hb : bt w with
    | true =>
      refine hQ _ _ _ _ _ _ (walks_text hh s.heap.objs.size a hne o es ep t hb) ⟨Heap.get?_push_size _ rfl, H.at' fun o e => Heap.get?_push_of_some _ e⟩ (fun b o e => Heap.get?_push_of_some _ e) (hnew _ (Nat.le_refl _)) hfp (Nat.le_refl _) hfp2 ?_
      intro acc hacc
      have hp := pickOrder_perm (w.params.setOrder a ep) es
      refine (hx (vs := (pickOrder (w.params.setOrder a ep) es).toList.map (·.2)) (by simpa using hp.length_eq) (fun i v hv => ?_) acc hacc).trans (hp.map _)
      obtain ⟨e, q1, q2⟩ := hv
      rw [List.getElem?_map, Array.getElem?_toList, q1, q2]; rfl
    | false =>
      have hd' : (!t.plain && decide (es.size > 1)) = false := by rw [hb] at hd; simpa using hd
      refine hQ _ _ _ _ _ _ (walks_slots hh s.heap.objs.size a hne o es ep t hb hd') ⟨Heap.get?_push_size _ rfl, H.at' fun o e => Heap.get?_push_of_some _ e⟩ (fun b o e => Heap.get?_push_of_some _ e) (hnew _ (Nat.le_refl _)) hfp (Nat.le_refl _) hfp2 ?_
      refine hx (by simp) fun i v hv => ?_
      obtain ⟨e, q1, q2⟩ := hv
      rw [List.getElem?_map, Array.getElem?_toList, q1, q2]; rfl
end
end Mine
end

/-! # MS7 -/
section
set_option autoImplicit false
set_option maxRecDepth 100000
namespace Mine
open PySem PyProof.Rows

theorem split_set_len : splitId "set.__len__" = some ("set", "__len__") := by decide +kernel

theorem perm_ints {vs ws : List Value} (hp : vs.Perm ws) : ∀ {ns : List Int}, IntsAre ws ns → ∃ ms, IntsAre vs ms ∧ ms.Perm ns := by
  induction hp with
  | nil => intro ns h; cases h; exact ⟨[], .nil, .nil⟩
  | cons x _ ih => intro ns h; cases h with | cons n t h => obtain ⟨ms, q1, q2⟩ := ih h; exact ⟨n :: ms, .cons n t q1, q2.cons n⟩
  | swap x y l => intro ns h; cases h with | cons n t h => cases h with | cons m u h => exact ⟨_, .cons _ _ (.cons _ _ h), .swap _ _ _⟩
  | trans _ _ ih1 ih2 => intro ns h; obtain ⟨ms, q1, q2⟩ := ih2 h; obtain ⟨ls, q3, q4⟩ := ih1 q1; exact ⟨ls, q3, q4.trans q2⟩

section
variable {prog : Program} {w : World} {A : Around} {E : Value → Shared → Prop} {s : Shared}

theorem collect_set {a : Addr} {S : List Int} {Q : List Value → Shared → Prop} (hh : A.handled = none) (H : SetI prog w s.heap a S)
    (hQ : ∀ vs ns s', Kp s s' → IntsAre vs ns → ns.Nodup → (∀ k, k ∈ ns ↔ k ∈ S) → vs.length < scanBound → Q vs s') : wpAny (model prog w) A (collect (.ref a)) Q E s := by
  obtain ⟨o, es, ep, t, ms, ho, hx, hd, hel, hi, hn, hm, hsz, hf, hok⟩ := H
  have ha : a < s.heap.objs.size := Heap.lt_size ho
  unfold collect
  refine wpAny_bind (wpAny_runValue (codeAny_builtin PySem.F.entry_proto_collect ?_))
  rw [Around.under_plainId PySem.F.plain_proto_collect _]
  show wpAny _ A.in1 (newList [] >>= fun l => again (.builtin "list.__iadd__" ⟨[l, .ref a], []⟩)) _ _ s
  refine wpAny_bind (wpAny_newObj_type ?_)
  refine wpAny_pure ⟨plainId_quiet PySem.F.plain_list_iadd _, codeAny_builtin PySem.F.entry_list_iadd ?_⟩
  rw [Around.under_plainId PySem.F.plain_list_iadd _]
  generalize hH : s.heap.push { cls := .type "list", data := .seq ([] : List Value).toArray } = H₁
  have hk₁ : ∀ b o, s.heap.get? b = some o → H₁.get? b = some o := fun b o e => hH ▸ Heap.get?_push_of_some _ e
  have hS₁ : H₁.get? s.heap.objs.size = some { cls := .type "list", data := .seq ([] : List Value).toArray } := hH ▸ Heap.get?_push_size _ rfl
  have hSs : H₁.objs.size = s.heap.objs.size + 1 := by rw [← hH, Heap.size_push]
  have hSa : s.heap.objs.size ≠ a := Nat.ne_of_gt ha
  have h1 : Builtin.List.listSameRef (.ref s.heap.objs.size) (.ref a) = false := by simp [Builtin.List.listSameRef, hSa]
  have hT : Shared.TypeIs { s with heap := H₁ } (.ref a) "set" := ⟨o, hk₁ _ _ ho, hx.1⟩
  show wpAny _ A.in1 (Builtin.List.listExtendWith (.ref s.heap.objs.size) (.ref a) (.ref s.heap.objs.size)) _ _ { s with heap := H₁ }
  unfold Builtin.List.listExtendWith
  refine wpAny_bind (wpAny_typeOf hT ?_)
  rw [if_neg (by rw [h1]; decide)]
  refine wpAny_bind (iter_set (s := { s with heap := H₁ }) (A := A.in1) (by simp [hh]) ⟨hk₁ _ _ ho, hx, hd, hf, hok⟩ hsz fun I fp P St h' dr W st hk hI hfp hIn hfp2 hY => ?_)
  dsimp only
  have hT' : Shared.TypeIs { s with heap := h', drawn := dr } (.ref a) "set" := ⟨o, hk _ _ (hk₁ _ _ ho), hx.1⟩
  refine wpAny_bind (wpAny_holding ?_)
  unfold Builtin.List.listLengthHint
  refine wpAny_bind (wpAny_specialOf hT' F.slot_set_len.lookup ?_)
  (generalize hid : ("set.__len__" : String) = id0; (fail_if_success (clear hid id0)); wp_delta; rw [show splitId id0 = some ("set", "__len__") from by subst hid; exact split_set_len]; subst hid)
  refine wpAny_bind (wpAny_isInstance (b := true) hT' (by rw [isSubtype_type]; kernel_rfl) ?_)
  rw [if_neg (by decide)]
  rw [if_pos (by decide +kernel)]
  refine wpAny_bind (wpAny_typeOf hT' ?_)
  refine wpAny_pure ?_
  rw [if_pos (by decide +kernel)]
  refine wpAny_bind (wpAny_rule ?_)
  unfold Builtin.List.listTouch
  have hS' : h'.get? s.heap.objs.size = some (seqObj "list" #[] 0) := hk _ _ hS₁
  refine wpAny_bind (wpAny_bind (listUpdate_at hS' rfl ?_ (hsz := by simp) (hsz2 := by simp)))
  have e1 := get?_update_seq hS' (·.push .none)
  refine listUpdate_at e1 rfl ?_ (hsz := by simp [sizeLine_eq]) (hsz2 := by simp)
  have e2 := get?_update_seq e1 (·.pop)
  dsimp only
  generalize hH3 : (h'.update s.heap.objs.size (Obj.mapSeq (·.push .none))).update s.heap.objs.size (Obj.mapSeq (·.pop)) = H₃ at e2 ⊢
  have hk₃ : ∀ b o, b ≠ s.heap.objs.size → h'.get? b = some o → H₃.get? b = some o := fun b o hb e => by
    rw [← hH3, Heap.get?_update_ne _ _ _ _ hb, Heap.get?_update_ne _ _ _ _ hb]; exact e
  have hSf : s.heap.objs.size ∉ fp := fun hm => by
    rcases hfp2 _ hm with q | q
    · exact hSa q
    · exact absurd q (by show ¬ H₁.objs.size ≤ s.heap.objs.size; rw [hSs]; exact Nat.not_succ_le_self _)
  refine wpAny_pure ⟨plainId_quiet PySem.F.plain_extend_loop _, codeAny_extend_loopS W.toS (fits_of_scanBound hsz) _ hSf _ es.size 0 _ _ _ rfl (Nat.zero_le _)
    (W.frame 0 _ _ st fun b hb o e => hk₃ b o (fun q => hSf (q ▸ hb)) e) e2 (ItemsOf.nil P) fun s' acc' c' hmv hS'' hacc => ?_⟩
  show wpAny _ A (load s.heap.objs.size >>= _) _ _ s'
  refine wpAny_bind (wpAny_load hS'' ?_)
  have hold : ∀ b o, s.heap.get? b = some o → b ≠ s.heap.objs.size := fun b o e q => by
    have := Heap.lt_size e; rw [q] at this; exact Nat.lt_irrefl _ this
  have hp := hY acc' hacc
  obtain ⟨ns', h1', h2'⟩ := perm_ints hp hi
  refine wpAny_pure (hQ acc'.toList ns' s' ⟨fun b o e => hmv.heap b o ?_ (hk₃ b o (hold b o e) (hk b o (hk₁ b o e))), ⟨hmv.os, hmv.gens⟩⟩ h1' (h2'.nodup_iff.mpr hn) (fun k => h2'.mem_iff.trans (hm k)) ?_)
  · intro q
    rcases List.mem_cons.mp q with q | q
    · exact hold b o e q
    · rw [List.mem_singleton] at q
      have h2 : H₁.get? I = none := hI
      rw [← q, hk₁ b o e] at h2; cases h2
  · rw [Array.length_toList, hacc.1]; exact hsz
end
end Mine
end

/-! # MS8 -/
section
set_option autoImplicit false
set_option maxRecDepth 100000
namespace Mine
open PySem PySem.Calls PyProof.Rows

/-! ## the sorted form of a set of ints -/
def ins (x : Int) : List Int → List Int
  | [] => [x]
  | y :: l => if x < y then x :: y :: l else if x = y then y :: l else y :: ins x l
def norm (S : List Int) : List Int := S.foldr ins []

theorem mem_ins {x k : Int} : ∀ {l : List Int}, k ∈ ins x l ↔ k = x ∨ k ∈ l
  | [] => by simp [ins]
  | y :: l => by
    unfold ins
    split
    · simp
    · split
      · rename_i h; subst h; simp
      · simp [mem_ins (l := l)]; constructor
        · rintro (h | h | h) <;> simp [h]
        · rintro (h | h | h) <;> simp [h]
theorem mem_norm {k : Int} : ∀ {S : List Int}, k ∈ norm S ↔ k ∈ S
  | [] => by simp [norm]
  | x :: S => by
    show k ∈ ins x (norm S) ↔ _
    rw [mem_ins, mem_norm (S := S)]; simp
theorem ins_lt {x : Int} : ∀ {l : List Int}, l.Pairwise (· < ·) → (ins x l).Pairwise (· < ·)
  | [], _ => by simp [ins]
  | y :: l, h => by
    rw [List.pairwise_cons] at h
    unfold ins
    split
    · rename_i hx
      refine List.pairwise_cons.mpr ⟨fun k hk => ?_, List.pairwise_cons.mpr h⟩
      rcases List.mem_cons.mp hk with q | q
      · lia
      · have := h.1 k q; lia
    · split
      · exact List.pairwise_cons.mpr h
      · rename_i h1 h2
        refine List.pairwise_cons.mpr ⟨fun k hk => ?_, ins_lt h.2⟩
        rcases mem_ins.mp hk with q | q
        · lia
        · exact h.1 k q
theorem norm_lt : ∀ (S : List Int), (norm S).Pairwise (· < ·)
  | [] => .nil
  | _ :: S => ins_lt (norm_lt S)
theorem lt_ext : ∀ {l m : List Int}, l.Pairwise (· < ·) → m.Pairwise (· < ·) → (∀ k, k ∈ l ↔ k ∈ m) → l = m
  | [], [], _, _, _ => rfl
  | [], y :: m, _, _, h => by have := (h y).mpr (.head _); cases this
  | x :: l, [], _, _, h => by have := (h x).mp (.head _); cases this
  | x :: l, y :: m, hl, hm, h => by
    rw [List.pairwise_cons] at hl hm
    have hxy : x = y := by
      rcases List.mem_cons.mp ((h x).mp (.head _)) with q | q
      · exact q
      · rcases List.mem_cons.mp ((h y).mpr (.head _)) with z | z
        · exact z.symm
        · have := hm.1 x q; have := hl.1 y z; lia
    subst hxy
    rw [lt_ext hl.2 hm.2 fun k => ?_]
    constructor
    · intro q
      rcases List.mem_cons.mp ((h k).mp (.tail _ q)) with z | z
      · have := hl.1 k q; lia
      · exact z
    · intro q
      rcases List.mem_cons.mp ((h k).mpr (.tail _ q)) with z | z
      · have := hm.1 k q; lia
      · exact z
theorem norm_of {S l : List Int} (hn : l.Nodup) (hp : l.Pairwise (· ≤ ·)) (hm : ∀ k, k ∈ l ↔ k ∈ S) : l = norm S := by
  refine lt_ext ?_ (norm_lt S) fun k => (hm k).trans mem_norm.symm
  have := hp.and hn
  exact this.imp fun h => by lia
theorem norm_length_le (S : List Int) : (norm S).length ≤ S.length :=
  nodup_len ((norm_lt S).imp fun h => by lia) fun _ h => mem_norm.mp h
theorem norm_sorted {l : List Int} (h : l.Pairwise (· < ·)) : norm l = l := lt_ext (norm_lt _) h fun _ => mem_norm

/-- list.sort() sorts ints, fewer than N -/
def SortLt (N : Nat) : Prop := ∀ (prog : Program) (w : World) (A : Around) (E : Value → Shared → Prop) (s : Shared) (a : Addr) (vs : List Value) (ns : List Int) (n : Nat) (P : Fin → Shared → Prop),
  s.heap.get? a = some (seqObj "list" vs.toArray n) → IntsAre vs ns → vs.length < N →
  (∀ (out : Array Value) (ns' : List Int), IntsAre out.toList ns' → ns'.Perm ns → ns'.Pairwise (· ≤ ·) → P (.done (.ret .none)) { s with heap := sortedHeap s.heap a vs out }) →
  wpAny (model prog w) A (Builtin.«list.sort» ⟨[.ref a], []⟩) P E s
theorem sortLt64 : SortLt 64 := fun _ _ _ _ _ _ _ _ _ _ ho hI h64 h => list_sort_tree ho hI h64 h

section
variable {prog : Program} {w : World} {A : Around} {E : Value → Shared → Prop} {s : Shared}

theorem sortedHeap_at {h : Heap} {a : Addr} {vs : List Value} {n : Nat} {out : Array Value} (ho : h.get? a = some (seqObj "list" vs.toArray n)) : ∃ e, (sortedHeap h a vs out).get? a = some (seqObj "list" out e) := by
  have ha : a < h.objs.size := Heap.lt_size ho
  have e1 := get?_update_seq ho (fun _ => #[])
  have e2 : (((h.update a (Obj.mapSeq fun _ => #[])).push (seqObj "tuple" vs.toArray 0)).push (seqObj "list" #[] 0)).get? a = _ := Heap.get?_push_of_some _ (Heap.get?_push_of_some _ e1)
  exact ⟨_, get?_update_seq e2 (fun _ => out)⟩
theorem sortedHeap_keep {h : Heap} {a b : Addr} {o : Obj} {vs : List Value} {out : Array Value} (hb : b ≠ a) (e : h.get? b = some o) : (sortedHeap h a vs out).get? b = some o := by
  unfold sortedHeap
  rw [Heap.get?_update_ne _ _ _ _ hb]
  refine Heap.get?_push_of_some _ (Heap.get?_push_of_some _ ?_)
  rw [Heap.get?_update_ne _ _ _ _ hb]; exact e

theorem sorted_setI {N : Nat} (hN : SortLt N) {a : Addr} {S : List Int} {Q : Value → Shared → Prop} (hh : A.handled = none) (H : SetI prog w s.heap a S) (hS : (norm S).length < N)
    (hQ : ∀ b vs s', Kp s s' → s.heap.get? b = none → PL s'.heap b vs → IntsAre vs.toList (norm S) → Q (.ref b) s') : wpAny (model prog w) A (call (.builtin "sorted") [.ref a]) Q E s := by
  refine Calls.call_function_entry kind_sorted plain_sorted entry_sorted (args_sorted1 _) ?_
  unfold Builtin.«sorted»
  refine wpAny_bind (m := checkCount "sorted" 1 1 _) (wpAny_pure ?_)
  refine wpAny_bind (collect_set (by simp [hh]) H fun vs ns s₁ k₁ hI hn hm hb => ?_)
  have hlen : vs.length = ns.length := hI.length
  have hnl : ns.length = (norm S).length := by
    refine Nat.le_antisymm (nodup_len hn fun k hk => mem_norm.mpr ((hm k).mp hk)) (nodup_len ((norm_lt S).imp fun h => by lia) fun k hk => (hm k).mpr (mem_norm.mp hk))
  refine wpAny_bind (wpAny_newList ?_ (fits_of_scanBound hb))
  have hnew : s₁.heap.get? s₁.heap.objs.size = none := by
    refine none_of fun o e => ?_
    exact absurd (Heap.lt_size e) (Nat.lt_irrefl _)
  show wpAny _ _ _ _ _ { s₁ with heap := s₁.heap.push (seqObj "list" vs.toArray 0) }
  have hoL : (s₁.heap.push (seqObj "list" vs.toArray 0)).get? s₁.heap.objs.size = some (seqObj "list" vs.toArray 0) := Heap.get?_push_size _ rfl
  have hk2 : ∀ b o, s.heap.get? b = some o → b ≠ s₁.heap.objs.size ∧ (s₁.heap.push (seqObj "list" vs.toArray 0)).get? b = some o := fun b o e => by
    have e' := k₁.sub b o e
    exact ⟨fun q => (by rw [q, hnew] at e'; cases e'), Heap.get?_push_of_some _ e'⟩
  have hfr : s.heap.get? s₁.heap.objs.size = none := by
    refine none_of fun o e => ?_
    exact absurd rfl (hk2 _ o e).1
  generalize s₁.heap.push (seqObj "list" vs.toArray 0) = H₁ at hoL hk2 ⊢
  generalize s₁.heap.objs.size = L at hoL hk2 hfr ⊢
  refine wpAny_bind (wpAny_holding (wpAny_call_entry slot_list_sort ⟨_, hoL, rfl⟩ entry_list_sort (hN _ _ _ _ _ _ _ _ _ _ hoL hI (by lia) fun out ns' a1 a2 a3 => ⟨_, rfl, ?_⟩) (args_list_sort _)))
  have hns : ns' = norm S := norm_of (a2.nodup_iff.mpr hn) a3 fun k => a2.mem_iff.trans (hm k)
  have hq := hQ L out { s₁ with heap := sortedHeap H₁ L vs out } ⟨fun b o e => sortedHeap_keep (hk2 b o e).1 (hk2 b o e).2, ⟨k₁.same.os, k₁.same.gens⟩⟩ hfr (let ⟨n, e⟩ := sortedHeap_at (out := out) hoL; ⟨_, e, rfl, rfl, n, rfl⟩) (hns ▸ a1)
  exact wpAny_pure ⟨_, rfl, hq⟩
end

theorem ints_rd {X : Addr → Prop} {h : Heap} {vs : List Value} {ns : List Int} (r : IntsAre vs ns) : RdAll X h vs (ns.map .int) := by
  induction r with
  | nil => exact .nil
  | cons n t _ ih => exact .cons (.int n t) ih
theorem rd_ints {X : Addr → Prop} {h : Heap} {vs : List Value} {ns : List Int} (r : RdAll X h vs (ns.map .int)) : IntsAre vs ns := by
  induction ns generalizing vs with
  | nil => cases r; exact .nil
  | cons n ns ih =>
    cases r with
    | cons a r => cases a; exact .cons n _ (ih r)

section
variable {c : Cx} {k : Nat} {env : Env} {ρ : Vars} {μ : Mem}

/-- a call of a builtin with one argument of any kind -/
theorem callWith_one {f : Value} {e : Expr} {pos : Pos} {A : Around} {s : Shared} {Q : Value → Shared → Prop} {E : Value → Shared → Prop} (hst : notStar e = true)
    (hk : ∀ s' (Q' : Keeper → Shared → Prop), Q' .machine s' → wpAny (model c.prog c.w) A (keeperOf f) Q' E s')
    (h : wpAny (model c.prog c.w) A (eval e env) (fun v s' => wpAny (model c.prog c.w) A (call f [v]) Q E s') E s) : wpAny (model c.prog c.w) A (callWith pos f [] (backTo pos (starEach [e] env)) []) Q E s := by
  have hpl : (backTo pos (starEach [e] env)).any (·.1) = false := by rw [starEach_cons hst]; rfl
  have hev : wpAny (model c.prog c.w) A (spliced (backTo pos (starEach [e] env))) (fun vs s' => ∃ v, vs = [v] ∧ wpAny (model c.prog c.w) A (call f [v]) Q E s') E s :=
    args_cons (wpAny_mono h (fun v s' q => args_nil ⟨v, rfl, q⟩) fun _ _ x => x) (starEach_cons hst)
  unfold callWith
  have hargs : wpAny (model c.prog c.w) A (evalArgs f true (backTo pos (starEach [e] env)) []) (fun a s' => a.kw = [] ∧ ∃ v, a.pos = [v] ∧ wpAny (model c.prog c.w) A (call f [v]) Q E s') E s := by
    rw [starEach_cons hst] at hev ⊢
    exact evalArgs_plain (wpAny_mono hev (fun vs s' q => ⟨rfl, q⟩) fun _ _ e => e)
  refine wpAny_bind (wpAny_holding (wpAny_mono hargs (fun a s₁ h₁ => wpAny_bind (wpAny_standAt ?_)) fun _ _ x => x))
  obtain ⟨pos', kw⟩ := a
  obtain ⟨rfl, v, rfl, hc⟩ := h₁
  simp only [hpl, List.any_nil, Bool.or_false, List.nil_append]
  refine wpAny_bind (hk s₁ _ ?_)
  exact wpAny_bind (wpAny_mono hc (fun r s₂ hr => wpAny_bind (wpAny_holding (wpAny_point (wpAny_pure hr)))) fun _ _ x => x)

/-- sorted(set(e)) -/
theorem evF_sortedSet {N : Nat} (hN : SortLt N) {x y : Str} {px py pos pos' : Pos} {e : Expr} {S : List Int} (hg : c.mg x = none) (hb : bootBuiltins x = some (.builtin "sorted")) (hg' : c.mg y = none) (hb' : bootBuiltins y = some (.type "set"))
    (he : Ev c k env ρ μ e (.list (S.map .int))) (hlen : S.length < 1000) (hS : (norm S).length < N)
    (hs : notStar e = true := by rfl) (hn : x ≠ "__name__" := by decide) (hn' : y ≠ "__name__" := by decide)
    (hx : env.kindOf x = some .globalImplicit := by rfl) (hx' : env.kindOf y = some .globalImplicit := by rfl) (hd : (x == ("__debug__" : Str)) = false := by decide) (hd' : (y == ("__debug__" : Str)) = false := by decide) :
    EvF c k env ρ μ (.Call (.Name x px) [.Call (.Name y py) [e] [] pos'] [] pos) ((norm S).map .int) := by
  intro X A s E hA R
  refine Call_ (name_builtin R hx hg hb hn ?_ hd)
  refine callWith_one rfl (fun s' Q' hq => wpAny_pure hq) ?_
  refine Call_ (name_builtin R hx' hg' hb' hn' ?_ hd')
  refine callWith_plain R hA (.cons he .nil hs) (fun s' k' => ⟨.machine, .inr rfl, fun Q' hq => wpAny_pure hq⟩) (by intro h; cases h) fun vs s₁ k₁ r₁ => ?_
  cases r₁ with
  | cons r1 r2 =>
    cases r2
    cases r1 with
    | list hX ho hc hd hr =>
      rename_i a o vs n
      have hi := rd_ints hr
      have hl : vs.size = S.length := by have := hi.length; simpa using this
      refine call_setI hA.handled ⟨o, ho, hc, n, hd⟩ hi (by rw [hl]; unfold scanBound; lia) fun h' tk a' hnew hSI hk => ?_
      refine sorted_setI hN hA.handled hSI hS fun b vs' s₂ k₂ hb hpl hints => ?_
      have kk : Kp s₁ { s₁ with heap := h', toks := tk } := Kp.heap s₁ h' tk hk
      refine ⟨(k₁.trans kk).trans k₂, b, vs', rfl, ?_, hpl, ints_rd hints⟩
      refine none_of fun o e' => ?_
      have := (k₁.trans kk).sub b o e'; first | exact (no1 (hb) this).elim | exact (no1 this (hb)).elim | (rw [hb] at this; cases this)
end
end Mine
end

/-! # M10 -/
section
set_option autoImplicit false
set_option linter.unusedVariables false
namespace Mine
open PySem PySem.Calls PyProof.Rows

section
variable {c : Cx} {k : Nat} {env : Env} {ρ : Vars} {μ : Mem} {pos : Pos}

/-! ## an own list lent out -/
theorem Rc.lend {X : Addr → Prop} {s : Shared} {x : Str} {a : Addr} {ds : List D} (R : Rc c X env ρ μ s) (hx : ρ.lookup x = some (.raw (.ref a))) (hm : (a, ds) ∈ μ) :
    Rc c (fun b => X b ∧ b ≠ a) env ((x, .list ds) :: ρ) (dropM μ a) s := by
  obtain ⟨hXa, vs, ⟨o, e, hc, hdt, n, hd⟩, hr⟩ := R.mem a ds hm
  refine ⟨R.ok, R.base, fun b h => R.live b h.1, fun n' b h => ?_, R.apart, fun y d h => ?_, fun b es h => ?_⟩
  · obtain ⟨h1, h2, ov, h3⟩ := R.cel n' b h
    exact ⟨⟨h1, fun q => IsList_ne_Cell ⟨o, e, hc, n, hd⟩ (q ▸ h3) rfl⟩, h2, ov, h3⟩
  · rw [List.lookup_cons] at h
    cases hb : y == x with
    | true =>
      rw [hb] at h
      cases h
      obtain ⟨v, hv, r⟩ := R.vars x _ hx
      cases r
      rw [beq_iff_eq.mp hb]
      exact ⟨_, hv, .list (fun q => q.2 rfl) e hc hd (hr.weak fun _ q => q.1)⟩
    | false =>
      rw [hb] at h
      obtain ⟨v, hv, r⟩ := R.vars y d h
      exact ⟨v, hv, r.weak fun _ q => q.1⟩
  · obtain ⟨h1, h2⟩ := mem_dropM.mp h
    obtain ⟨q1, us, q2, q3⟩ := R.mem b es h1
    exact ⟨⟨q1, h2⟩, us, q2, q3.weak fun _ q => q.1⟩

theorem ev_lend {x : Str} {a : Addr} {ds : List D} {e : Expr} {d : D} (hx : ρ.lookup x = some (.raw (.ref a))) (hm : (a, ds) ∈ μ) (he : Ev c k env ((x, .list ds) :: ρ) (dropM μ a) e d) (hs : scalar d = true := by rfl) : Ev c k env ρ μ e d := fun X A s hA R E =>
  wpAny_mono (he _ A s hA (R.lend hx hm) E) (fun _ _ q => ⟨q.1, q.2.scalar hs⟩) fun _ _ e => e
theorem tr_lend {x : Str} {a : Addr} {ds : List D} {e : Expr} {b : Bool} (hx : ρ.lookup x = some (.raw (.ref a))) (hm : (a, ds) ∈ μ) (he : Tr c k env ((x, .list ds) :: ρ) (dropM μ a) e b) : Tr c k env ρ μ e b := fun X A s E hA R =>
  he _ A s E hA (R.lend hx hm)
/-! ## more expressions -/
/-! ## calls that give a list of their own -/
end
end Mine
end

/-! # M11 -/
section
set_option autoImplicit false
set_option linter.unusedVariables false
namespace Mine
open PySem PySem.Calls PyProof.Rows

end Mine
end

/-! # M12 -/
section
set_option autoImplicit false
set_option linter.unusedVariables false
namespace Mine
open PySem PySem.Calls PyProof.Rows

/-- at least these names -/
def Has (ρ₀ ρ : Vars) : Prop := ∀ x d, ρ₀.lookup x = some d → ρ.lookup x = some d
theorem Has.refl (ρ : Vars) : Has ρ ρ := fun _ _ e => e
theorem Has.cons {ρ₀ ρ : Vars} (h : Has ρ₀ ρ) (x : Str) (d : D) : Has ((x, d) :: ρ₀) ((x, d) :: ρ) := fun y e q => by
  rw [List.lookup_cons] at q ⊢
  cases hb : y == x with
  | true => rw [hb] at q; exact q
  | false => rw [hb] at q; exact h y e q
/-- these names, each by a look -/
def hasAll (ρ₀ ρ : Vars) : Prop := ∀ p ∈ ρ₀, ρ.lookup p.1 = some p.2
theorem has_of {ρ₀ ρ : Vars} (h : hasAll ρ₀ ρ) : Has ρ₀ ρ := fun x d e => h (x, d) (mem_of_lookup e)
theorem hasAll_nil {ρ : Vars} : hasAll [] ρ := fun _ h => nomatch h
theorem hasAll_cons {ρ₀ ρ : Vars} {x : Str} {d : D} (h : ρ.lookup x = some d) (r : hasAll ρ₀ ρ) : hasAll ((x, d) :: ρ₀) ρ := fun p hp => by
  rcases List.mem_cons.mp hp with q | q
  · subst q; exact h
  · exact r p q

section
variable {c : Cx} {k : Nat} {env : Env} {ρ : Vars} {μ : Mem} {Q : Out → Vars → Mem → Prop}

theorem ex_has {ρ₀ : Vars} {ss : List Stmt} (h : Ex c k env ρ₀ μ ss Q) (hw : Has ρ₀ ρ) : Ex c k env ρ μ ss Q := ex_weak h hw

/-- the turns of a for, by what they keep -/
theorem turns_st {α σ : Type} {f : α → D} {x : Str} {body : List Stmt} (V : σ → Vars) (U : σ → Mem) (J : List α → σ → Prop)
    (step : ∀ a rest t, J (a :: rest) t → Ex c k env ((x, f a) :: V t) (U t) body (fun o ρ' μ' => match o with
      | .next | .cont => ∃ t', J rest t' ∧ Has (V t') ρ' ∧ μ' = U t'
      | .brk => Q .next ρ' μ'
      | .ret d => Q (.ret d) ρ' μ'))
    (fin : ∀ t ρ', J [] t → Has (V t) ρ' → Q .next ρ' (U t)) : ∀ (l : List α) (t : σ) (ρ : Vars), J l t → Has (V t) ρ → Turns c k env x body Q (l.map f) ρ (U t)
  | [], t, ρ, hJ, hρ => fin t ρ hJ hρ
  | a :: l, t, ρ, hJ, hρ => by
    refine ex_mono (ex_has (step a l t hJ) (hρ.cons x (f a))) fun o ρ' μ' q => ?_
    cases o with
    | next => obtain ⟨t', q1, q2, q3⟩ := q; subst q3; exact turns_st V U J step fin l t' ρ' q1 q2
    | cont => obtain ⟨t', q1, q2, q3⟩ := q; subst q3; exact turns_st V U J step fin l t' ρ' q1 q2
    | brk => exact q
    | ret d => exact q

/-! ## comprehensions over what is told apart -/
open Classical in
noncomputable def liftP {α : Type} (g : α → D) (p : α → Bool) (d : D) : Bool := decide (∃ a, g a = d ∧ p a = true)
open Classical in
noncomputable def liftF {α β : Type} (g : α → D) (h : β → D) (f : α → β) (d : D) : D := if e : ∃ a, g a = d then h (f e.choose) else .none
theorem liftP_eq {α : Type} {g : α → D} (hg : ∀ a b, g a = g b → a = b) (p : α → Bool) (a : α) : liftP g p (g a) = p a := by
  unfold liftP
  cases hp : p a with
  | true => simp only [decide_eq_true_eq]; exact ⟨a, rfl, hp⟩
  | false => simp only [decide_eq_false_iff_not]; rintro ⟨b, e, hb⟩; rw [hg _ _ e, hp] at hb; cases hb
theorem liftF_eq {α β : Type} {g : α → D} (hg : ∀ a b, g a = g b → a = b) (h : β → D) (f : α → β) (a : α) : liftF g h f (g a) = h (f a) := by
  unfold liftF
  have e : ∃ b, g b = g a := ⟨a, rfl⟩
  rw [dif_pos e, hg _ _ e.choose_spec]
theorem lift_list {α β : Type} {g : α → D} (hg : ∀ a b, g a = g b → a = b) (h : β → D) (f : α → β) (p : α → Bool) : ∀ l : List α, ((l.map g).filter (liftP g p)).map (liftF g h f) = ((l.filter p).map f).map h
  | [] => rfl
  | a :: l => by
    rw [List.map_cons, List.filter_cons, List.filter_cons, liftP_eq hg]
    split
    · rw [List.map_cons, List.map_cons, List.map_cons, liftF_eq hg, lift_list hg h f p l]
    · exact lift_list hg h f p l

theorem ev_compM {α β : Type} {g : α → D} {h : β → D} {l : List α} {p : α → Bool} {f : α → β} {elt iter : Expr} {ifs : List Expr} {scope : Scope} {x : Str} {px pos : Pos} (hg : ∀ a b, g a = g b → a = b) (src : Src c k env ρ μ iter (l.map g))
    (tests : ∀ C cl a, a ∈ l → Tests c k (cenvOf scope env C cl) ((x, g a) :: capt scope ρ) ifs (p a))
    (elts : ∀ C cl a, a ∈ l → p a = true → Ev c k (cenvOf scope env C cl) ((x, g a) :: capt scope ρ) [] elt (h (f a))) (hlen : l.length ≤ 16777216)
    (ok : compOk scope env x = true := by rfl) (hs : ∀ x, foldedSetIterable iter env x = pure x := by intro _; rfl) : Ev c k env ρ μ (.ListComp elt [⟨.Name x px, iter, ifs, 0⟩] scope pos) (.list (((l.filter p).map f).map h)) := by
  rw [← lift_list hg h f p l]
  refine ev_comp src (fun C cl d hd => ?_) (fun C cl d hd hp => ?_) (by simpa using hlen) ok hs
  · obtain ⟨a, ha, rfl⟩ := List.mem_map.mp hd
    rw [liftP_eq hg]; exact tests C cl a ha
  · obtain ⟨a, ha, rfl⟩ := List.mem_map.mp hd
    rw [liftP_eq hg] at hp
    rw [liftF_eq hg]; exact elts C cl a ha hp
theorem ex_assign_compM {α β : Type} {g : α → D} {h : β → D} {l : List α} {p : α → Bool} {f : α → β} {elt iter : Expr} {ifs : List Expr} {scope : Scope} {x y : Str} {px py pos spos : Pos} (hg : ∀ a b, g a = g b → a = b) (src : Src c k env ρ μ iter (l.map g))
    (tests : ∀ C cl a, a ∈ l → Tests c k (cenvOf scope env C cl) ((x, g a) :: capt scope ρ) ifs (p a))
    (elts : ∀ C cl a, a ∈ l → p a = true → Ev c k (cenvOf scope env C cl) ((x, g a) :: capt scope ρ) [] elt (h (f a))) (hlen : l.length ≤ 16777216)
    (hq : Q .next ((y, .list (((l.filter p).map f).map h)) :: ρ) μ)
    (hsw : swapsWith (.ListComp elt [⟨.Name x px, iter, ifs, 0⟩] scope pos) (some (.Name y py)) spos.line env = pure true := by rfl) (hy : stor env y = true := by rfl)
    (ok : compOk scope env x = true := by rfl) (hs : ∀ x, foldedSetIterable iter env x = pure x := by intro _; rfl) :
    Ex1 c k env ρ μ (.Assign [.Name y py] (.ListComp elt [⟨.Name x px, iter, ifs, 0⟩] scope pos) spos) Q := by
  rw [← lift_list hg h f p l] at hq
  refine ex_assign_comp src (fun C cl d hd => ?_) (fun C cl d hd hp => ?_) (by simpa using hlen) hq hsw hy ok hs
  · obtain ⟨a, ha, rfl⟩ := List.mem_map.mp hd
    rw [liftP_eq hg]; exact tests C cl a ha
  · obtain ⟨a, ha, rfl⟩ := List.mem_map.mp hd
    rw [liftP_eq hg] at hp
    rw [liftF_eq hg]; exact elts C cl a ha hp
theorem inj_int : ∀ a b : Int, D.int a = D.int b → a = b := fun _ _ h => D.int.inj h
theorem inj_list {α : Type} {g : α → D} (hg : ∀ a b, g a = g b → a = b) : ∀ a b : List α, D.list (a.map g) = D.list (b.map g) → a = b := fun a b h => (List.map_inj_right (fun x y => hg x y)).mp (D.list.inj h)
theorem inj_I : ∀ a b : List Int, I a = I b → a = b := inj_list inj_int
end
end Mine
end

/-! # M14 -/
section
set_option autoImplicit false
set_option linter.unusedVariables false
namespace Mine
open PySem PySem.Calls PyProof.Rows

section
variable {c : Cx} {k : Nat} {env : Env} {ρ : Vars} {μ : Mem} {pos : Pos}

theorem enc_bool : Enc D.bool 0 where
  eq := fun a b => by cases a <;> cases b <;> decide
  raw := fun _ => rfl
  lay := fun _ => by simp [toPy, PyData.canLay0]
  depth := fun _ => by simp [toPy, PyData.depth]

/-- a global number -/
theorem ev_globalInt {x : Str} {px : Pos} {n : Int} {t : Tok} (hg : c.mg x = some (.int n t)) (hx : env.kindOf x = some .globalImplicit := by rfl) (hd : (x == ("__debug__" : Str)) = false := by decide) : Ev c k env ρ μ (.Name x px) (.int n) := fun X A s hA R E =>
  name_global R hx hg ⟨Kp.refl s, .int _ _⟩ hd

theorem ev_max {x : Str} {px : Pos} {e f : Expr} {a b : Int} (hg : c.mg x = none) (hb : bootBuiltins x = some (.builtin "max")) (h1 : Ev c k env ρ μ e (.int a)) (h2 : Ev c k env ρ μ f (.int b)) (hs1 : notStar e = true := by rfl) (hs2 : notStar f = true := by rfl) (hn : x ≠ "__name__" := by decide)
    (hx : env.kindOf x = some .globalImplicit := by rfl) (hd : (x == ("__debug__" : Str)) = false := by decide) : Ev c k env ρ μ (.Call (.Name x px) [e, f] [] pos) (.int (max a b)) :=
  ev_callB hg hb (.cons h1 (.cons h2 .nil hs2) hs1) (fun X A s vs hA _ r E => by
    cases r with
    | cons r1 r2 =>
      cases r2 with
      | cons r2 r3 =>
        cases r3
        cases r2
        cases r1
        refine max_two_ints hA.handled fun h' tk k => ⟨Kp.heap s h' tk k, ?_⟩
        split
        · rw [Int.max_eq_right (by omega)]; exact .int _ _
        · rw [Int.max_eq_left (by omega)]; exact .int _ _) hn (by intro h; cases h) hx hd

theorem ev_all {x : Str} {px : Pos} {e : Expr} {bs : List Bool} (hg : c.mg x = none) (hb : bootBuiltins x = some (.builtin "all")) (h1 : Ev c k env ρ μ e (.list (bs.map .bool))) (hs1 : notStar e = true := by rfl) (hn : x ≠ "__name__" := by decide)
    (hx : env.kindOf x = some .globalImplicit := by rfl) (hd : (x == ("__debug__" : Str)) = false := by decide) : Ev c k env ρ μ (.Call (.Name x px) [e] [] pos) (.bool (bs.all id)) :=
  ev_callB hg hb (.cons h1 .nil hs1) (fun X A s vs hA hl r E => by
    cases r with
    | cons r1 r2 =>
      cases r2
      cases r1 with
      | list hX ho hc hd hr =>
        rename_i a o vs n
        refine call_all_walk (wpAny_pyIter_list ⟨o, ho, hc, n, hd⟩ ?_)
        have hne : a ≠ s.heap.objs.size := Nat.ne_of_lt (Heap.lt_size ho)
        have hlv : vs.size = bs.length := by have := hr.length; simpa using this
        refine ⟨_, _, _, _, _, _, fun i => bs.getD i false, rfl, Walks.list (prog := c.prog) (w := c.w) (A := A.in1) hA.handled s.heap.objs.size a hne vs, ⟨⟨_, Heap.get?_push_size _ rfl, rfl, rfl⟩, o, Heap.get?_push_of_some _ ho, hc, n, hd⟩, fun i v s' Q E hP hQ => ?_, fun h' tk hk => ⟨Kp.heap s h' tk fun b o' e => hk b o' (fun q => ?_) (Heap.get?_push_of_some _ e), ?_⟩⟩
        · obtain ⟨d, hd1, hd2⟩ := hr.getV (i := i) (v := v) (by simpa using hP)
          obtain ⟨b, hb1, rfl⟩ : ∃ b, bs[i]? = some b ∧ D.bool b = d := by simpa using hd1
          cases hd2
          have : bs.getD i false = b := by simp [hb1]
          dsimp only at hQ
          rw [this] at hQ
          exact wpAny_truthy_bool hQ
        · simp at q; subst q; exact absurd (Heap.lt_size e) (Nat.lt_irrefl _)
        · have : ((List.range vs.size).all fun i => bs.getD i false) = bs.all id := by
            rw [hlv, Bool.eq_iff_iff, List.all_eq_true, List.all_eq_true]
            constructor
            · intro h b hb'
              obtain ⟨i, hi, rfl⟩ := List.getElem_of_mem hb'
              have := h i (List.mem_range.mpr hi)
              simpa [List.getD_eq_getElem?_getD, hi] using this
            · intro h i hi
              have hi' := List.mem_range.mp hi
              have := h bs[i] (List.getElem_mem _)
              simpa [List.getD_eq_getElem?_getD, hi'] using this
          rw [this]; exact .bool _) hn (by intro h; cases h) hx hd

/-! ## slices -/
theorem RdAll.drop {X : Addr → Prop} {h : Heap} {vs : List Value} {ds : List D} (r : RdAll X h vs ds) (n : Nat) : RdAll X h (vs.drop n) (ds.drop n) := by
  induction n generalizing vs ds with
  | zero => exact r
  | succ n ih => cases r with
    | nil => exact .nil
    | cons _ r => exact ih r
theorem RdAll.take {X : Addr → Prop} {h : Heap} {vs : List Value} {ds : List D} (r : RdAll X h vs ds) (n : Nat) : RdAll X h (vs.take n) (ds.take n) := by
  induction n generalizing vs ds with
  | zero => exact .nil
  | succ n ih => cases r with
    | nil => exact .nil
    | cons a r => exact .cons a (ih r)

theorem push2_get {h : Heap} {o1 o2 : Obj} (hf : o2.isFreed = false := by rfl) : ((h.push o1).push o2).get? (h.objs.size + 1) = some o2 := by
  have := Heap.get?_push_size (h.push o1) (o := o2) hf
  rwa [Heap.size_push] at this
theorem ev_sliceTo {e i : Expr} {p : Pos} {ds : List D} {n : Int} (he : Ev c k env ρ μ e (.list ds)) (hi : Ev c k env ρ μ i (.int n)) (h0 : 0 ≤ n) (hlen : ds.length ≤ 16777216) (ht : ∀ o r, letTemporaryGo e o r = pure () := by intro _ _; rfl) :
    Ev c k env ρ μ (.Subscript e (.Slice none (some i) none p) pos) (.list (ds.take n.toNat)) := by
  intro X A s hA R E
  refine wpAny_Subscript_list_slice (gives_bind (he X A s hA R) fun v s₁ k₁ r₁ => wpAny_pure ?_) ht
  refine gives_bind (hi X A s₁ hA (R.keep k₁.sub)) fun u s₂ k₂ r₂ => ?_
  cases r₂
  have R₂ := (R.keep k₁.sub).keep k₂.sub
  cases r₁.keep k₂.sub with
  | list hX ho hc hd hr =>
    rename_i a o vs m
    have hv : vs.size = ds.length := by have := hr.length; simpa using this
    have hk : ∀ o1 o2, Sub s₂.heap ((s₂.heap.push o1).push o2) := fun _ _ _ _ e => Heap.get?_push_of_some _ (Heap.get?_push_of_some _ e)
    refine ⟨a, vs, none, some n, rfl, ⟨o, ho, hc, m, hd⟩, by rw [hv, sizeLine_eq]; exact hlen, .none, .int _ _, (k₁.trans k₂).trans (Kp.heap s₂ _ s₂.toks (hk _ _)), ?_⟩
    have en : n = (n.toNat : Int) := by omega
    refine .list (fun q => ?_) push2_get rfl rfl ?_
    · obtain ⟨o', e'⟩ := R₂.live _ q
      exact absurd (Heap.lt_size e') (by simp)
    · have es := slicePick_upto' vs n.toNat
      rw [← en] at es
      rw [es]
      exact (hr.take n.toNat).keep (hk _ _)
theorem ev_sliceFrom {e i : Expr} {p : Pos} {ds : List D} {n : Int} (he : Ev c k env ρ μ e (.list ds)) (hi : Ev c k env ρ μ i (.int n)) (h0 : 0 ≤ n) (hlen : ds.length ≤ 16777216) (ht : ∀ o r, letTemporaryGo e o r = pure () := by intro _ _; rfl) :
    Ev c k env ρ μ (.Subscript e (.Slice (some i) none none p) pos) (.list (ds.drop n.toNat)) := by
  intro X A s hA R E
  refine wpAny_Subscript_list_slice (gives_bind (he X A s hA R) fun v s₁ k₁ r₁ => ?_) ht
  refine gives_bind (hi X A s₁ hA (R.keep k₁.sub)) fun u s₂ k₂ r₂ => wpAny_pure ?_
  cases r₂
  have R₂ := (R.keep k₁.sub).keep k₂.sub
  cases r₁.keep k₂.sub with
  | list hX ho hc hd hr =>
    rename_i a o vs m
    have hv : vs.size = ds.length := by have := hr.length; simpa using this
    have hk : ∀ o1 o2, Sub s₂.heap ((s₂.heap.push o1).push o2) := fun _ _ _ _ e => Heap.get?_push_of_some _ (Heap.get?_push_of_some _ e)
    refine ⟨a, vs, some n, none, rfl, ⟨o, ho, hc, m, hd⟩, by rw [hv, sizeLine_eq]; exact hlen, .int _ _, .none, (k₁.trans k₂).trans (Kp.heap s₂ _ s₂.toks (hk _ _)), ?_⟩
    have en : n = (n.toNat : Int) := by omega
    refine .list (fun q => ?_) push2_get rfl rfl ?_
    · obtain ⟨o', e'⟩ := R₂.live _ q
      exact absurd (Heap.lt_size e') (by simp)
    · have es := slicePick_from' vs n.toNat
      rw [← en] at es
      rw [es]
      exact (hr.drop n.toNat).keep (hk _ _)

/-- x + y, a list of its own -/
theorem evF_catL {l r : Expr} {xs ys : List D} (ha : Ev c k env ρ μ l (.list xs)) (hb : Ev c k env ρ μ r (.list ys)) (hlen : xs.length + ys.length ≤ 16777216) : EvF c k env ρ μ (.BinOp l .Add r pos) (xs ++ ys) := by
  intro X A s E hA R
  refine wpAny_BinOp (gives_bind (ha X A s hA R) fun v s₁ k₁ r₁ => ?_)
  refine gives_bind (hb X A s₁ hA (R.keep k₁.sub)) fun u s₂ k₂ r₂ => ?_
  cases r₁.keep k₂.sub with
  | list hX ho hc hd hr =>
    rename_i a o vs n
    cases r₂ with
    | list hX2 ho2 hc2 hd2 hr2 =>
      rename_i a2 o2 vs2 n2
      obtain ⟨cls, dd, data, sl⟩ := o
      obtain ⟨cls2, dd2, data2, sl2⟩ := o2
      simp only at hc hd hc2 hd2
      subst hc hd hc2 hd2
      have hv : vs.size = xs.length := by have := hr.length; simpa using this
      have hv2 : vs2.size = ys.length := by have := hr2.length; simpa using this
      refine concat_meets ⟨_, ho, rfl⟩ ⟨_, ho2, rfl⟩ noFill_list_add seq_list_add PySem.F.slot_list_add PySem.F.entry_list_add (PySem.F.args_list_add_2 _ _) (list_addW a a2 vs vs2 n n2 dd dd2 sl sl2 (by rw [hv, hv2, sizeLine_eq]; exact hlen)) ⟨ho, ho2, ?_⟩
      have hx : ∀ b o, ¬ X b → s₂.heap.get? b = some o → ¬ (X b ∨ b = s₂.heap.objs.size) ∧ (s₂.heap.push { cls := .type "list", data := .seq (vs ++ vs2) }).get? b = some o := fun b o n e => ⟨fun q => q.elim n fun q => absurd (Heap.lt_size e) (q ▸ Nat.lt_irrefl _), Heap.get?_push_of_some _ e⟩
      refine ⟨(k₁.trans k₂).trans (Kp.push s₂ _ _), s₂.heap.objs.size, vs ++ vs2, rfl, ?_, ⟨_, Heap.get?_push_size _ rfl, rfl, rfl, _, rfl⟩, ?_⟩
      · refine none_of fun o e => ?_
        exact absurd (Heap.lt_size ((k₁.trans k₂).sub _ _ e)) (Nat.lt_irrefl _)
      · simpa using (hr.mono hx).append (hr2.mono hx)

/-- a change at a place that is kept apart -/
theorem St.butX {X₀ : Addr → Prop} {s s' : Shared} {b : Addr} (S : St c X₀ env ρ μ s) (hX : X₀ b) (hb : c.base.get? b = none) (hm : ¬ Mut env μ b) (hs : Heap.SameBut b s.heap s'.heap) (ha : ∃ o, s'.heap.get? b = some o) : St c X₀ env ρ μ s' := by
  have hx : XOf X₀ env μ b := .inl hX
  have kM : ∀ a o, Mut env μ a → s.heap.get? a = some o → s'.heap.get? a = some o := fun a o m e => hs.extBut a o (fun q => hm (q ▸ m)) e
  refine { S with base := fun a o e => hs.extBut a o (fun q => ?_) (S.base a o e), live := fun a q => ?_, ns := ?_, cel := fun n a h => ?_, vars := fun x d e => ?_, mem := fun a ds m => ?_ }
  · rw [q, hb] at e; cases e
  · by_cases z : a = b
    · exact z ▸ ha
    · exact (S.live a q).imp fun o e => hs.extBut a o z e
  · obtain ⟨m, o, es, ep, e, r⟩ := S.ns
    exact ⟨m, o, es, ep, kM _ _ (.inl rfl) e, r⟩
  · obtain ⟨ov, o, e, r⟩ := S.cel n a h
    exact ⟨ov, o, kM _ _ (.inr (.inl ⟨n, h⟩)) e, r⟩
  · obtain ⟨v, y, r⟩ := S.vars x d e
    refine ⟨v, ?_, r.but hx hs⟩
    rcases y with ⟨y, m, ⟨o, es, ep, e', r⟩, q⟩ | ⟨y, c', q, o, e', r⟩
    · exact .inl ⟨y, m, ⟨o, es, ep, kM _ _ (.inl rfl) e', r⟩, q⟩
    · exact .inr ⟨y, c', q, o, kM _ _ (.inr (.inl ⟨x, q⟩)) e', r⟩
  · obtain ⟨vs, ⟨o, e, y⟩, r⟩ := S.mem a ds m
    exact ⟨vs, ⟨o, kM _ _ (.inr (.inr ⟨ds, m⟩)) e, y⟩, r.but hx hs⟩

/-- x[i] = e on an own list, which changes no more -/
theorem ex_setItem {Q : Out → Vars → Mem → Prop} {x : Str} {px p : Pos} {e i : Expr} {a : Addr} {ds : List D} {d : D} {n : Int} (hx : ρ.lookup x = some (.raw (.ref a))) (hm : (a, ds) ∈ μ) (he : Ev c k env ρ μ e d) (hi : Ev c k env ρ μ i (.int n)) (h0 : 0 ≤ n) (h1 : n < ds.length) (hlen : ds.length ≤ 16777216)
    (h : Q .next ((x, .list (ds.set n.toNat d)) :: ρ) (dropM μ a)) (hd : (x == ("__debug__" : Str)) = false := by decide) (hs : swapsWith e (some (.Subscript (.Name x px) i p)) pos.line env = pure false := by rfl) :
    Ex1 c k env ρ μ (.Assign [.Subscript (.Name x px) i p] e pos) Q := by
  intro X₀ A s E hA S
  refine wpAny_Assign_Subscript (gives_bind (he _ A s hA S.rc) fun v s₁ k₁ r₁ => ?_) hs
  have S₁ := S.kp k₁
  refine gives_bind (ev_name (k := k) hx hd _ A s₁ hA S₁.rc) fun u s₂ k₂ r₂ => ?_
  cases r₂
  have S₂ := S₁.kp k₂
  refine gives_bind (hi _ A s₂ hA S₂.rc) fun w s₃ k₃ r₃ => ?_
  cases r₃
  have S₃ := S₂.kp k₃
  obtain ⟨vs, ⟨o, ho, hc, hdt, ne, hdat⟩, hr⟩ := S₃.mem a ds hm
  have hla : s₃.heap.IsList a vs := ⟨o, ho, hc, ne, hdat⟩
  have hv : vs.size = ds.length := by have := hr.length; simpa using this
  refine wpAny_setItem_list hla h0 (by omega) (by rw [hv]; exact h1) fun h' hl' hs' => ?_
  have hset : ∀ {vs : List Value} {ds : List D} {X : Addr → Prop} {h : Heap}, RdAll X h vs ds → ∀ (n : Nat) {v : Value} {d : D}, Rd X h v d → RdAll X h (vs.set n v) (ds.set n d) := by
    intro vs ds X h r
    induction vs generalizing ds with
    | nil => intro n v d _; cases r; exact .nil
    | cons y l ih =>
      intro n v d rv
      cases r with
      | cons ra rr =>
        cases n with
        | zero => exact .cons rv rr
        | succ n => exact .cons ra (ih rr n rv)
  have hXe : ∀ b, XOf (fun b => X₀ b ∨ b = a) env (dropM μ a) b → XOf X₀ env μ b := fun b z => by
    rcases z with (z | z) | z | z | ⟨fs, z⟩
    · exact .inl z
    · exact .inr (.inr (.inr ⟨ds, z ▸ hm⟩))
    · exact .inr (.inl z)
    · exact .inr (.inr (.inl z))
    · exact .inr (.inr (.inr ⟨fs, (mem_dropM.mp z).1⟩))
  have S' := S₃.dropM (a := a)
  have S₄ : St c (fun b => X₀ b ∨ b = a) env ρ (dropM μ a) s₃ := by
    refine { S' with live := fun b z => ?_, vars := fun y e q => ?_, mem := fun b es q => ?_, memX := fun b es q z => ?_ }
    · rcases z with z | z
      · exact S₃.live b z
      · exact ⟨o, z ▸ ho⟩
    · obtain ⟨u, y1, y2⟩ := S₃.vars y e q; exact ⟨u, y1, y2.weak hXe⟩
    · obtain ⟨us, y1, y2⟩ := S₃.mem b es (mem_dropM.mp q).1; exact ⟨us, y1, y2.weak hXe⟩
    · rcases z with z | z
      · exact S₃.memX b es (mem_dropM.mp q).1 z
      · exact (mem_dropM.mp q).2 z
  have nM : ¬ Mut env (dropM μ a) a := by
    rintro (q | ⟨n', q⟩ | ⟨fs, q⟩)
    · obtain ⟨m, hns⟩ := S₃.ns; exact IsList_ne_Ns hla hns q
    · obtain ⟨ov, hcl⟩ := S₃.cel n' a q; exact IsList_ne_Cell hla hcl rfl
    · exact (mem_dropM.mp q).2 rfl
  have hMa : Mut env μ a := .inr (.inr ⟨ds, hm⟩)
  have S₅ := S₄.butX (s' := { s₃ with heap := h' }) (.inr rfl) (S₃.own a hMa) nM hs' (let ⟨o', e', _⟩ := hl'; ⟨o', e'⟩)
  have hX : XOf X₀ env μ a := .inr hMa
  have hr' : RdAll (XOf X₀ env μ) h' (vs.setIfInBounds n.toNat v).toList (ds.set n.toNat d) := by
    rw [Array.toList_setIfInBounds]
    exact hset (hr.but hX hs') n.toNat ((r₁.keep (k₂.trans k₃).sub).but hX hs')
  have hXd : ∀ b, XOf X₀ env (dropM μ a) b → XOf X₀ env μ b := fun b z => hXe b (z.imp .inl id)
  refine ⟨.next, _, _, trivial, { S₅.reX (fun b z => .inl z) with vars := fun y e q => ?_ }, ?_, h⟩
  · rw [List.lookup_cons] at q
    cases hb : y == x with
    | true =>
      first | exact (no1 (hb) q).elim | exact (no1 q (hb)).elim | (rw [hb] at q; cases q)
      obtain ⟨u, y1, y2⟩ := S₅.vars x _ hx
      cases y2
      rw [beq_iff_eq.mp hb]
      obtain ⟨o', e', c', n', d'⟩ := hl'
      refine ⟨_, y1, .list ?_ e' c' d' (hr'.weak hXd)⟩
      rintro (z | z)
      · exact S₃.memX a ds hm z
      · exact nM z
    | false => rw [hb] at q; exact (S₅.reX (fun b z => Or.inl z)).vars y e q
  · have g := Go.but (env := env) (tk := s₃.toks) hMa hs' (let ⟨o', e', _⟩ := hl'; ⟨o', e'⟩)
    have g' : Go env μ s₃ (dropM μ a) { s₃ with heap := h' } := ⟨g.same, g.keep, g.alive, fun b fs y => .inl ⟨fs, (mem_dropM.mp y).1⟩⟩
    exact (Go.of_kp ((k₁.trans k₂).trans k₃)).trans g'

/-- x, y = e -/
theorem ex_assign2 {Q : Out → Vars → Mem → Prop} {x y : Str} {px py tp : Pos} {kk : Nat} {e : Expr} {d₁ d₂ : D} (he : Ev c k env ρ μ e (.tuple [d₁, d₂])) (h : Q .next ((y, d₂) :: (x, d₁) :: ρ) μ) (hx : stor env x = true := by rfl) (hy : stor env y = true := by rfl)
    (hs : swapsWithSole [.Tuple [.Name x px, .Name y py] kk tp] e pos.line env = pure false := by rfl) (hw : swappedStores [.Tuple [.Name x px, .Name y py] kk tp] e env = pure none := by rfl) :
    Ex1 c k env ρ μ (.Assign [.Tuple [.Name x px, .Name y py] kk tp] e pos) Q := by
  intro X₀ A s E hA S
  refine Assign_Tuple (gives_bind (he _ A s hA S.rc) fun v s₁ k₁ r₁ => ?_) hs hw
  have S₁ := S.kp k₁
  cases r₁ with
  | tuple hX ho hc hd hr =>
    rename_i a o vs n
    have hv : vs.size = 2 := by have := hr.length; simpa using this
    refine wpAny_assign_Tuple hA.handled ⟨o, ho, hc, n, hd⟩ (by rw [hv]; rfl) rfl fun h' hk => ?_
    have hk' : Sub s₁.heap h' := fun b o e => hk b o (fun q => absurd (Heap.lt_size e) (q ▸ Nat.lt_irrefl _)) e
    have k₂ : Kp s₁ { s₁ with heap := h' } := ⟨hk', ⟨rfl, rfl⟩⟩
    have S₂ := S₁.kp k₂
    have hr₂ := hr.keep hk'
    obtain ⟨l⟩ := vs
    cases hr₂ with
    | cons a1 r2 =>
      cases r2 with
      | cons a2 r3 =>
        cases r3
        refine wpAny_bind (wpAny_holding (assign_Name (st_store S₂ hx a1 fun s₃ S₃ g₃ => wpAny_bind (wpAny_holding (assign_Name (st_store (d := d₂) S₃ hy ?_ fun s₄ S₄ g₄ => wpAny_pure ?_))))))
        · exact a2.mono fun b o n e => ⟨n, g₃.keep b o (fun m => n (.inr m)) e⟩
        · exact ⟨.next, _, μ, trivial, S₄, (Go.of_kp (k₁.trans k₂)).trans (g₃.trans g₄), h⟩
end
end Mine
end

/-! # MG -/
section
set_option autoImplicit false
set_option linter.unusedVariables false
namespace Mine
open PySem PySem.Calls PyProof.Rows

theorem boot_len : bootBuiltins "len" = some (.builtin "len") := by decide +kernel
theorem boot_list : bootBuiltins "list" = some (.type "list") := by decide +kernel
theorem boot_range : bootBuiltins "range" = some (.type "range") := by decide +kernel
theorem boot_set : bootBuiltins "set" = some (.type "set") := by decide +kernel
theorem boot_sorted : bootBuiltins "sorted" = some (.builtin "sorted") := by decide +kernel
theorem boot_max : bootBuiltins "max" = some (.builtin "max") := by decide +kernel
theorem boot_all : bootBuiltins "all" = some (.builtin "all") := by decide +kernel

theorem Fn.up {c : Cx} {j k : Nat} {f : Addr} {ds : List D} {r : D} (h : Fn c j f ds r) (hjk : j ≤ k) : Fn c k f ds r := fun X A s vs hA => h X A s vs (hA.le hjk)
theorem fmod_lt {a b : Int} (h : 0 < b) : a.fmod b < b := Int.fmod_lt_of_pos a h
theorem fmod_nn {a b : Int} (h : 0 < b) : 0 ≤ a.fmod b := Int.fmod_nonneg_of_pos a h
theorem bits_le {a : Int} (h : a.natAbs < 2 ^ 32) : Builtin.Int.intBits a ≤ 64 := by
  unfold Builtin.Int.intBits
  split
  · omega
  · rename_i hz
    have h0 : a.natAbs ≠ 0 := by simp at hz; omega
    have := (Nat.log2_lt h0).mpr h
    omega
theorem mul_left {a b : Int} (h : a.natAbs < 2 ^ 32) : IntMulOk a b := IntMulOk.of_left (bits_le h)
theorem mul_right {a b : Int} (h : b.natAbs < 2 ^ 32) : IntMulOk a b := IntMulOk.of_right (bits_le h)
theorem upto_len (n : Int) : (upto n).length = n.toNat := by simp [upto]
theorem len_cons {α : Type} {n : Nat} {l : List α} (h : l.length = n + 1) : ∃ a m, l = a :: m ∧ m.length = n := by
  cases l with
  | nil => cases h
  | cons a m => exact ⟨a, m, rfl, Nat.succ.inj h⟩
theorem len_nil {α : Type} {l : List α} (h : l.length = 0) : l = [] := List.length_eq_zero_iff.mp h
section
variable {st : Stmt}
theorem binds1 (h : ∀ nm qn doc pm an cdv ct a, bindArgs (fnD st nm qn doc pm an cdv ct) ⟨[a], []⟩ = pure ((namesOf st).zip [a])) : Binds st 1 := fun nm qn doc pm an cdv ct vs h0 => by
  obtain ⟨a, m0, rfl, h1⟩ := len_cons h0
  cases len_nil h1
  exact h nm qn doc pm an cdv ct a
theorem binds2 (h : ∀ nm qn doc pm an cdv ct a b, bindArgs (fnD st nm qn doc pm an cdv ct) ⟨[a, b], []⟩ = pure ((namesOf st).zip [a, b])) : Binds st 2 := fun nm qn doc pm an cdv ct vs h0 => by
  obtain ⟨a, m0, rfl, h1⟩ := len_cons h0
  obtain ⟨b, m1, rfl, h2⟩ := len_cons h1
  cases len_nil h2
  exact h nm qn doc pm an cdv ct a b
theorem binds3 (h : ∀ nm qn doc pm an cdv ct a b d, bindArgs (fnD st nm qn doc pm an cdv ct) ⟨[a, b, d], []⟩ = pure ((namesOf st).zip [a, b, d])) : Binds st 3 := fun nm qn doc pm an cdv ct vs h0 => by
  obtain ⟨a, m0, rfl, h1⟩ := len_cons h0
  obtain ⟨b, m1, rfl, h2⟩ := len_cons h1
  obtain ⟨d, m2, rfl, h3⟩ := len_cons h2
  cases len_nil h3
  exact h nm qn doc pm an cdv ct a b d
theorem binds4 (h : ∀ nm qn doc pm an cdv ct a b d e, bindArgs (fnD st nm qn doc pm an cdv ct) ⟨[a, b, d, e], []⟩ = pure ((namesOf st).zip [a, b, d, e])) : Binds st 4 := fun nm qn doc pm an cdv ct vs h0 => by
  obtain ⟨a, m0, rfl, h1⟩ := len_cons h0
  obtain ⟨b, m1, rfl, h2⟩ := len_cons h1
  obtain ⟨d, m2, rfl, h3⟩ := len_cons h2
  obtain ⟨e, m3, rfl, h4⟩ := len_cons h3
  cases len_nil h4
  exact h nm qn doc pm an cdv ct a b d e
theorem binds5 (h : ∀ nm qn doc pm an cdv ct a b d e g, bindArgs (fnD st nm qn doc pm an cdv ct) ⟨[a, b, d, e, g], []⟩ = pure ((namesOf st).zip [a, b, d, e, g])) : Binds st 5 := fun nm qn doc pm an cdv ct vs h0 => by
  obtain ⟨a, m0, rfl, h1⟩ := len_cons h0
  obtain ⟨b, m1, rfl, h2⟩ := len_cons h1
  obtain ⟨d, m2, rfl, h3⟩ := len_cons h2
  obtain ⟨e, m3, rfl, h4⟩ := len_cons h3
  obtain ⟨g, m4, rfl, h5⟩ := len_cons h4
  cases len_nil h5
  exact h nm qn doc pm an cdv ct a b d e g
end
/-- an if whose ways meet -/
theorem ex_if_join {c : Cx} {k : Nat} {env : Env} {ρ : Vars} {μ : Mem} {Q : Out → Vars → Mem → Prop} {test : Expr} {body orelse : List Stmt} {pos : Pos} {b : Bool} (ρJ : Vars) (μJ : Mem) (ht : Tr c k env ρ μ test b)
    (h1 : b = true → Ex c k env ρ μ body (fun o ρ' μ' => match o with | .next => Has ρJ ρ' ∧ μ' = μJ | o => Q o ρ' μ')) (h2 : b = false → Ex c k env ρ μ orelse (fun o ρ' μ' => match o with | .next => Has ρJ ρ' ∧ μ' = μJ | o => Q o ρ' μ'))
    (hj : ∀ ρ', Has ρJ ρ' → Q .next ρ' μJ) : Ex1 c k env ρ μ (.If test body orelse pos) Q := by
  have conv : ∀ o ρ' μ', (match o with | Out.next => Has ρJ ρ' ∧ μ' = μJ | o => Q o ρ' μ') → Q o ρ' μ' := fun o ρ' μ' q => by
    cases o with
    | next => obtain ⟨q1, rfl⟩ := q; exact hj ρ' q1
    | brk => exact q
    | cont => exact q
    | ret d => exact q
  exact ex_if ht (fun hb => ex_mono (h1 hb) conv) (fun hb => ex_mono (h2 hb) conv)
end Mine
end

/-! # P9a -/
section
set_option autoImplicit false
set_option linter.unusedVariables false
namespace Mine

/-! # plain: closures, knots -/
abbrev MRule := List Int × List Int
def hasB (ns ms : List Int) : Bool := ms.all fun m => decide (m ∈ ns)
def lackL (xs ys : List Int) : List Int := xs.filter fun x => !decide (x ∈ ys)
theorem hasB_iff {ns ms : List Int} : hasB ns ms = true ↔ ∀ m ∈ ms, m ∈ ns := by simp [hasB]
theorem lack_nil {xs ys : List Int} : lackL xs ys = [] ↔ ∀ m ∈ xs, m ∈ ys := by simp [lackL]

theorem upto_lt (n : Int) : (upto n).Pairwise (· < ·) := by
  unfold upto
  rw [List.pairwise_map]
  exact List.pairwise_lt_range.imp fun h => by omega
theorem sub_lt {n : Int} {S : List Int} (h : S.Sublist (upto n)) : S.Pairwise (· < ·) := (upto_lt n).sublist h
theorem sub_ext {n : Int} {S T : List Int} (h : S.Sublist (upto n)) (h' : T.Sublist (upto n)) (e : ∀ k, k ∈ S ↔ k ∈ T) : S = T := lt_ext (sub_lt h) (sub_lt h') e

def thingsL (R : List (List Int)) (S : List Int) : List Int := (upto R.length).filter fun t => hasB (R.getD t.toNat []) S
def marksL (n : Int) (R : List (List Int)) (T : List Int) : List Int := (upto n).filter fun m => T.all fun t => decide (m ∈ R.getD t.toNat [])
def cloL (n : Int) (R : List (List Int)) (S : List Int) : List Int := marksL n R (thingsL R S)

section
variable {n : Int} {R : List (List Int)} {S T : List Int}
theorem clo_sub : (cloL n R S).Sublist (upto n) := List.filter_sublist
theorem mem_clo {m : Int} : m ∈ cloL n R S ↔ m ∈ upto n ∧ ∀ t ∈ thingsL R S, m ∈ R.getD t.toNat [] := by
  unfold cloL marksL; simp
theorem mem_things {t : Int} : t ∈ thingsL R S ↔ t ∈ upto R.length ∧ ∀ m ∈ S, m ∈ R.getD t.toNat [] := by
  unfold thingsL; rw [List.mem_filter, hasB_iff]
theorem clo_ext (h : S.Sublist (upto n)) : ∀ m ∈ S, m ∈ cloL n R S := fun m hm => mem_clo.mpr ⟨h.subset hm, fun t ht => (mem_things.mp ht).2 m hm⟩
theorem clo_idem (h : S.Sublist (upto n)) : cloL n R (cloL n R S) = cloL n R S := by
  have : thingsL R (cloL n R S) = thingsL R S := by
    unfold thingsL
    refine List.filter_congr fun t ht => ?_
    rw [Bool.eq_iff_iff, hasB_iff, hasB_iff]
    constructor
    · exact fun q m hm => q m (clo_ext h m hm)
    · exact fun q m hm => (mem_clo.mp hm).2 t (mem_things.mpr ⟨ht, q⟩)
  show marksL n R (thingsL R (cloL n R S)) = _
  rw [this]; rfl
end

def isKnot (S cl : List Int) (ks : List MRule) : Bool := !decide (cl = S) && ks.all fun k => !(decide (k.1.length < S.length) && hasB S k.1 && !hasB S k.2)
def knotStep (n : Int) (R : List (List Int)) (ks : List MRule) (S : List Int) : List MRule := if isKnot S (cloL n R S) ks then ks ++ [(S, cloL n R S)] else ks
def knotsL (n : Int) (R : List (List Int)) (L : List (List Int)) : List MRule := L.foldl (knotStep n R) []

theorem isKnot_iff {S cl : List Int} {ks : List MRule} : isKnot S cl ks = true ↔ cl ≠ S ∧ ∀ k ∈ ks, k.1.length < S.length → (∀ m ∈ k.1, m ∈ S) → ∀ m ∈ k.2, m ∈ S := by
  unfold isKnot
  simp only [Bool.and_eq_true, Bool.not_eq_true', decide_eq_false_iff_not, List.all_eq_true, Bool.and_eq_false_iff, decide_eq_false_iff_not, Bool.not_eq_false']
  refine and_congr Iff.rfl ⟨fun h k hk h1 h2 => ?_, fun h k hk => ?_⟩
  · rcases h k hk with (q | q) | q
    · exact absurd h1 q
    · first | exact (no1 (hasB_iff.mpr h2) q).elim | exact (no1 q (hasB_iff.mpr h2)).elim | (rw [hasB_iff.mpr h2] at q; cases q)
    · exact hasB_iff.mp q
  · by_cases h1 : k.1.length < S.length
    · by_cases h2 : hasB S k.1 = true
      · exact .inr (hasB_iff.mpr (h k hk h1 (hasB_iff.mp h2)))
      · exact .inl (.inr (by simpa using h2))
    · exact .inl (.inl h1)

structure KnotInv (n : Int) (R : List (List Int)) (pre : List (List Int)) (ks : List MRule) : Prop where
  snd : ∀ k ∈ ks, k.2 = cloL n R k.1
  sub : (ks.map (·.1)).Sublist pre
  spec : ∀ S ∈ pre, (S ∈ ks.map (·.1) ↔ cloL n R S ≠ S ∧ ∀ k ∈ ks, k.1.length < S.length → (∀ m ∈ k.1, m ∈ S) → ∀ m ∈ k.2, m ∈ S)

theorem knot_go {n : Int} {R : List (List Int)} : ∀ (L pre : List (List Int)) (ks : List MRule), (pre ++ L).Pairwise (fun a b => a.length ≤ b.length) → (pre ++ L).Nodup → KnotInv n R pre ks → KnotInv n R (pre ++ L) (L.foldl (knotStep n R) ks)
  | [], pre, ks, _, _, h => by simpa using h
  | S :: L, pre, ks, hp, hn, h => by
    rw [List.foldl_cons]
    have e : pre ++ S :: L = (pre ++ [S]) ++ L := by simp
    rw [e] at hp hn ⊢
    refine knot_go L _ _ hp hn ?_
    have hS : ∀ T ∈ pre, T.length ≤ S.length := fun T hT => by
      have := (List.pairwise_append.mp (List.pairwise_append.mp hp).1).2.2 T hT S (by simp)
      exact this
    have hnS : S ∉ pre := fun hm => by
      have := (List.nodup_append.mp (List.nodup_append.mp hn).1).2.2 S hm S (by simp)
      exact this rfl
    have hnk : S ∉ ks.map (·.1) := fun hm => hnS (h.sub.subset hm)
    unfold knotStep
    split
    · rename_i hk
      rw [isKnot_iff] at hk
      refine ⟨fun k hk' => ?_, ?_, fun T hT => ?_⟩
      · rcases List.mem_append.mp hk' with q | q
        · exact h.snd k q
        · simp at q; subst q; rfl
      · rw [List.map_append]; exact h.sub.append (List.Sublist.refl _)
      · rw [List.map_append, List.mem_append]
        rcases List.mem_append.mp hT with q | q
        · have hne : T ≠ S := fun e => hnS (e ▸ q)
          simp only [List.map_cons, List.map_nil, List.mem_singleton, hne, or_false]
          rw [h.spec T q]
          refine and_congr Iff.rfl ⟨fun z k hk' h1 h2 => ?_, fun z k hk' => z k (List.mem_append_left _ hk')⟩
          rcases List.mem_append.mp hk' with y | y
          · exact z k y h1 h2
          · simp at y; subst y; exact absurd h1 (Nat.not_lt.mpr (hS T q))
        · simp at q; subst q
          simp only [List.map_cons, List.map_nil, List.mem_singleton, or_true, true_iff]
          refine ⟨hk.1, fun k hk' h1 h2 => ?_⟩
          rcases List.mem_append.mp hk' with y | y
          · exact hk.2 k y h1 h2
          · simp at y; subst y; exact absurd h1 (Nat.lt_irrefl _)
    · rename_i hk
      refine ⟨h.snd, h.sub.trans (List.sublist_append_left _ _), fun T hT => ?_⟩
      rcases List.mem_append.mp hT with q | q
      · exact h.spec T q
      · simp at q; subst q
        refine ⟨fun m => absurd m hnk, fun m => absurd (isKnot_iff.mpr m) hk⟩

theorem knots_inv {n : Int} {R L : List (List Int)} (hp : L.Pairwise (fun a b => a.length ≤ b.length)) (hn : L.Nodup) : KnotInv n R L (knotsL n R L) := by
  have := knot_go (n := n) (R := R) L [] [] (by simpa using hp) (by simpa using hn) ⟨fun _ h => (nomatch h), List.Sublist.refl _, fun _ h => (nomatch h)⟩
  unfold knotsL; simpa using this

theorem pigeon {α β : Type} [DecidableEq β] (r : α → β → Prop) : ∀ (L : List α) (M : List β), L.Nodup → (∀ a ∈ L, ∃ b ∈ M, r a b) → (∀ a ∈ L, ∀ a' ∈ L, ∀ b, r a b → r a' b → a = a') → L.length ≤ M.length
  | [], _, _, _, _ => Nat.zero_le _
  | a :: L, M, hn, h, hi => by
    obtain ⟨b, hb, hr⟩ := h a (.head _)
    rw [List.nodup_cons] at hn
    have := pigeon r L (M.erase b) hn.2 (fun a' ha' => ?_) fun x hx y hy => hi x (.tail _ hx) y (.tail _ hy)
    · rw [List.length_erase_of_mem hb] at this
      have := List.length_pos_of_mem hb
      rw [List.length_cons]; omega
    · obtain ⟨b', hb', hr'⟩ := h a' (.tail _ ha')
      refine ⟨b', (List.mem_erase_of_ne fun e => ?_).mpr hb', hr'⟩
      subst e
      exact hn.1 (hi a (.head _) a' (.tail _ ha') _ hr hr' ▸ ha')

def meetsB (r : MRule) (S : List Int) : Bool := !hasB S r.1 || hasB S r.2

/-- no fewer rules are met by just the closed sets -/
theorem fewer_fail {n : Int} {R L : List (List Int)} (hp : L.Pairwise (fun a b => a.length ≤ b.length)) (hn : L.Nodup) (hL : ∀ S, S ∈ L ↔ S.Sublist (upto n)) {rules : List MRule} (hlt : rules.length < (knotsL n R L).length)
    (H : ∀ S, S.Sublist (upto n) → (rules.all (meetsB · S) = decide (cloL n R S = S))) : False := by
  have I := knots_inv (n := n) (R := R) hp hn
  have hnd : ((knotsL n R L).map (·.1)).Nodup := hn.sublist I.sub
  have sub : ∀ P ∈ (knotsL n R L).map (·.1), P.Sublist (upto n) := fun P hP => (hL P).mp (I.sub.subset hP)
  have met : ∀ S, S.Sublist (upto n) → cloL n R S = S → ∀ r ∈ rules, (∀ m ∈ r.1, m ∈ S) → ∀ m ∈ r.2, m ∈ S := fun S hS hc r hr h1 => by
    have := H S hS
    rw [hc] at this
    simp only [decide_true, List.all_eq_true] at this
    have := this r hr
    unfold meetsB at this
    rw [hasB_iff.mpr h1] at this
    exact hasB_iff.mp (by simpa using this)
  have down : ∀ P ∈ (knotsL n R L).map (·.1), ∀ Q ∈ (knotsL n R L).map (·.1), (∀ m ∈ P, m ∈ Q) → P ≠ Q → ∀ m ∈ cloL n R P, m ∈ Q := fun P hP Q hQ hs hne => by
    obtain ⟨k, hk, rfl⟩ := List.mem_map.mp hP
    have hlen : k.1.length < Q.length := by
      have s1 := (sub_lt (sub _ hP))
      have hsub : k.1.Sublist Q := by
        have e1 : k.1 = Q.filter (fun x => decide (x ∈ k.1)) := by
          refine sub_ext (sub _ hP) (List.filter_sublist.trans (sub _ hQ)) fun x => ?_
          simp only [List.mem_filter, decide_eq_true_eq]
          exact ⟨fun h => ⟨hs x h, h⟩, fun h => h.2⟩
        rw [e1]; exact List.filter_sublist
      rcases Nat.lt_or_ge k.1.length Q.length with h | h
      · exact h
      · exact absurd (hsub.eq_of_length (Nat.le_antisymm hsub.length_le h)) hne
    have := ((I.spec Q (I.sub.subset hQ)).mp hQ).2 k hk hlen hs
    rwa [I.snd k hk] at this
  have bad : ∀ P ∈ (knotsL n R L).map (·.1), ∃ r ∈ rules, (∀ m ∈ r.1, m ∈ P) ∧ ¬ ∀ m ∈ r.2, m ∈ P := fun P hP => by
    have h1 := ((I.spec P (I.sub.subset hP)).mp hP).1
    have h2 := H P (sub P hP)
    rw [decide_eq_false h1, List.all_eq_false] at h2
    obtain ⟨r, hr, h3⟩ := h2
    refine ⟨r, hr, ?_⟩
    unfold meetsB at h3
    simp only [Bool.or_eq_true, Bool.not_eq_true', not_or] at h3
    refine ⟨hasB_iff.mp (by simpa using h3.1), fun q => h3.2 (hasB_iff.mpr q)⟩
  have := pigeon (fun P (r : MRule) => (∀ m ∈ r.1, m ∈ P) ∧ (¬ ∀ m ∈ r.2, m ∈ P) ∧ r ∈ rules) ((knotsL n R L).map (·.1)) rules hnd
    (fun P hP => let ⟨r, hr, h1, h2⟩ := bad P hP; ⟨r, hr, h1, h2, hr⟩) ?_
  · rw [List.length_map] at this; omega
  rintro P hP Q hQ r ⟨p1, p2, hr⟩ ⟨q1, q2, _⟩
  refine Classical.byContradiction fun hne => ?_
  -- one within the other
  have one : ∀ P ∈ (knotsL n R L).map (·.1), ∀ Q ∈ (knotsL n R L).map (·.1), P ≠ Q → (∀ m ∈ P, m ∈ Q) → (∀ m ∈ r.1, m ∈ P) → ∀ m ∈ r.2, m ∈ Q := fun P hP Q hQ hne hs h1 m hm =>
    down P hP Q hQ hs hne m (met _ clo_sub (clo_idem (sub P hP)) r hr (fun x hx => clo_ext (sub P hP) x (h1 x hx)) m hm)
  by_cases hPQ : ∀ m ∈ P, m ∈ Q
  · exact q2 (one P hP Q hQ hne hPQ p1)
  by_cases hQP : ∀ m ∈ Q, m ∈ P
  · exact p2 (one Q hQ P hP (Ne.symm hne) hQP q1)
  -- apart: what both have is closed
  have hRs : (P.filter fun x => decide (x ∈ Q)).Sublist (upto n) := List.filter_sublist.trans (sub P hP)
  have memR : ∀ x, x ∈ (P.filter fun x => decide (x ∈ Q)) ↔ x ∈ P ∧ x ∈ Q := fun x => by simp
  have hRc : cloL n R (P.filter fun x => decide (x ∈ Q)) = P.filter fun x => decide (x ∈ Q) := by
    refine Classical.byContradiction fun hc => ?_
    have hK : (P.filter fun x => decide (x ∈ Q)) ∈ (knotsL n R L).map (·.1) := by
      refine (I.spec _ ((hL _).mpr hRs)).mpr ⟨hc, fun k hk h1 h2 m hm => ?_⟩
      have hk' : k.1 ∈ (knotsL n R L).map (·.1) := List.mem_map_of_mem hk
      rw [I.snd k hk] at hm
      refine (memR m).mpr ⟨down _ hk' P hP (fun x hx => ((memR x).mp (h2 x hx)).1) ?_ m hm, down _ hk' Q hQ (fun x hx => ((memR x).mp (h2 x hx)).2) ?_ m hm⟩
      · intro e
        have : k.1.length ≤ _ := Nat.le_refl k.1.length
        exact hPQ fun x hx => ((memR x).mp (h2 x (e ▸ hx))).2
      · intro e
        exact hQP fun x hx => ((memR x).mp (h2 x (e ▸ hx))).1
    refine hc (sub_ext clo_sub hRs fun x => ⟨fun hx => (memR x).mpr ⟨down _ hK P hP (fun y hy => ((memR y).mp hy).1) (fun e => ?_) x hx, down _ hK Q hQ (fun y hy => ((memR y).mp hy).2) (fun e => ?_) x hx⟩, clo_ext hRs x⟩)
    · exact hPQ fun y hy => by rw [← e] at hy; exact ((memR y).mp hy).2
    · exact hQP fun y hy => by rw [← e] at hy; exact ((memR y).mp hy).1
  exact p2 fun m hm => ((memR m).mp (met _ hRs hRc r hr (fun x hx => (memR x).mpr ⟨p1 x hx, q1 x hx⟩) m hm)).1
end Mine
end

/-! # P9b -/
section
set_option autoImplicit false
namespace Mine

theorem upto_succ (k : Nat) : upto ((k : Int) + 1) = upto k ++ [(k : Int)] := by
  unfold upto
  have : ((k : Int) + 1).toNat = k + 1 := by lia
  rw [this, List.range_succ]; simp

/-! ## all sets -/
def subsL : Nat → List (List Int)
  | 0 => [[]]
  | k + 1 => subsL k ++ (subsL k).map (· ++ [(k : Int)])
theorem mem_subs : ∀ {k : Nat} {S : List Int}, S ∈ subsL k ↔ S.Sublist (upto k)
  | 0, S => by simp [subsL, upto]
  | k + 1, S => by
    rw [show ((k + 1 : Nat) : Int) = (k : Int) + 1 by lia, upto_succ]
    unfold subsL
    rw [List.mem_append, List.mem_map]
    constructor
    · rintro (h | ⟨T, h, rfl⟩)
      · exact (mem_subs.mp h).trans (List.sublist_append_left _ _)
      · exact (mem_subs.mp h).append (List.Sublist.refl _)
    · intro h
      obtain ⟨A, B, rfl, hA, hB⟩ := List.sublist_append_iff.mp h
      have : B = [] ∨ B = [(k : Int)] := by
        cases hB with
        | cons _ h => cases h; exact .inl rfl
        | cons_cons _ h => cases h; exact .inr rfl
      rcases this with rfl | rfl
      · exact .inl (by rw [List.append_nil]; exact mem_subs.mpr hA)
      · exact .inr ⟨A, mem_subs.mpr hA, rfl⟩
theorem subs_nodup : ∀ (k : Nat), (subsL k).Nodup
  | 0 => by simp [subsL]
  | k + 1 => by
    unfold subsL
    refine List.nodup_append.mpr ⟨subs_nodup k, ?_, fun a ha b hb e => ?_⟩
    · refine List.Pairwise.map _ (fun a b h e => h ?_) (subs_nodup k)
      exact List.append_cancel_right e
    · subst e
      obtain ⟨T, _, rfl⟩ := List.mem_map.mp hb
      have := (mem_subs.mp ha).subset (List.mem_append_right T (List.mem_singleton_self _))
      have := (mem_upto.mp this).2
      lia
theorem subs_len : ∀ (k : Nat), (subsL k).length = 2 ^ k
  | 0 => rfl
  | k + 1 => by unfold subsL; rw [List.length_append, List.length_map, subs_len k]; lia

/-! ## sets by numbers -/
def setBy (n x : Int) : List Int := (upto n).filter fun m => (x.fdiv (2 ^ m.toNat)).fmod 2 == 1
theorem setBy_sub {n x : Int} : (setBy n x).Sublist (upto n) := List.filter_sublist
theorem bits (p : Nat → Bool) : ∀ k : Nat, ∃ x : Nat, x < 2 ^ k ∧ ∀ m < k, x / 2 ^ m % 2 = if p m then 1 else 0
  | 0 => ⟨0, by simp, fun m h => absurd h (Nat.not_lt_zero _)⟩
  | k + 1 => by
    obtain ⟨x, hx, h⟩ := bits p k
    refine ⟨(if p k then 2 ^ k else 0) + x, ?_, fun m hm => ?_⟩
    · split <;> lia
    · by_cases e : m = k
      · subst e
        split
        · rw [Nat.add_comm, Nat.add_div_right _ (Nat.two_pow_pos m), Nat.div_eq_of_lt hx]
        · rw [Nat.zero_add, Nat.div_eq_of_lt hx]
      · have hm' : m < k := by lia
        rw [← h m hm']
        split
        · have : 2 ^ k = 2 * (2 ^ (k - 1 - m)) * 2 ^ m := by
            rw [Nat.mul_assoc, ← Nat.pow_add, Nat.mul_comm, ← Nat.pow_succ]; congr 1; lia
          rw [this, Nat.add_comm, Nat.add_mul_div_right _ _ (Nat.two_pow_pos m)]; lia
        · rw [Nat.zero_add]
theorem setBy_onto {k : Nat} {S : List Int} (h : S.Sublist (upto k)) : ∃ x : Int, 0 ≤ x ∧ x < 2 ^ k ∧ setBy k x = S := by
  obtain ⟨x, hx, hb⟩ := bits (fun m => decide ((m : Int) ∈ S)) k
  refine ⟨x, by omega, by have : ((2 ^ k : Nat) : Int) = 2 ^ k := by simp
                          lia, ?_⟩
  refine sub_ext setBy_sub h fun m => ?_
  unfold setBy
  rw [List.mem_filter, mem_upto]
  have key : ∀ m : Int, 0 ≤ m → m < k → (((x : Int).fdiv (2 ^ m.toNat)).fmod 2 == 1) = decide (m ∈ S) := fun m h0 h1 => by
    have := hb m.toNat (by lia)
    have e : ((x : Int).fdiv (2 ^ m.toNat)).fmod 2 = ((x / 2 ^ m.toNat % 2 : Nat) : Int) := by
      rw [Int.fdiv_eq_ediv_of_nonneg _ (by exact Int.le_of_lt (Int.pow_pos (by decide))), Int.fmod_eq_emod_of_nonneg _ (by decide)]
      simp
    rw [e, this, show ((m.toNat : Nat) : Int) = m by lia]
    by_cases q : m ∈ S <;> simp [q]
  constructor
  · rintro ⟨⟨h0, h1⟩, h2⟩
    rw [key m h0 h1] at h2; simpa using h2
  · intro hm
    have := mem_upto.mp (h.subset hm)
    refine ⟨this, ?_⟩
    rw [key m this.1 this.2]; simpa using hm

/-! ## the order of (len, list) -/
def valL : List Int → Int
  | [] => 0
  | x :: l => x * 8 ^ l.length + valL l
def rkL (S : List Int) : Int := S.length * 16777216 + valL S
/-- python's order of lists of ints -/
def lexB : List Int → List Int → Bool
  | [], [] => false
  | [], _ :: _ => true
  | _ :: _, [] => false
  | x :: l, y :: m => if x = y then lexB l m else decide (x < y)
theorem val_range : ∀ {S : List Int}, (∀ x ∈ S, 0 ≤ x ∧ x < 8) → 0 ≤ valL S ∧ valL S < 8 ^ S.length
  | [], _ => by simp [valL]
  | x :: l, h => by
    have h1 := h x (.head _)
    have h2 := val_range (S := l) fun y hy => h y (.tail _ hy)
    unfold valL
    rw [List.length_cons, Int.pow_succ]
    generalize (8 : Int) ^ l.length = q at *
    have hx : x * q ≤ 7 * q := Int.mul_le_mul_of_nonneg_right (by lia) (by lia)
    have hx' : 0 ≤ x * q := Int.mul_nonneg h1.1 (by lia)
    lia
theorem val_lex : ∀ {S T : List Int}, (∀ x ∈ S, 0 ≤ x ∧ x < 8) → (∀ x ∈ T, 0 ≤ x ∧ x < 8) → S.length = T.length → (lexB S T = decide (valL S < valL T) ∧ (valL S = valL T → S = T))
  | [], [], _, _, _ => by simp [lexB, valL]
  | x :: l, y :: m, hS, hT, e => by
    have e' : l.length = m.length := by simpa using e
    obtain ⟨i1, i2⟩ := val_lex (S := l) (T := m) (fun z hz => hS z (.tail _ hz)) (fun z hz => hT z (.tail _ hz)) e'
    have r1 := val_range (S := l) fun z hz => hS z (.tail _ hz)
    have r2 := val_range (S := m) fun z hz => hT z (.tail _ hz)
    unfold lexB valL
    rw [e'] at r1 ⊢
    generalize (8 : Int) ^ m.length = q at *
    by_cases hxy : x = y
    · subst hxy
      rw [if_pos rfl, i1]
      refine ⟨by congr 1; exact propext (by lia), fun h => ?_⟩
      rw [i2 (by lia)]
    · rw [if_neg hxy]
      have hne : ∀ a b : Int, a < b → a * q + q ≤ b * q := fun a b hab => by
        have : (a + 1) * q ≤ b * q := Int.mul_le_mul_of_nonneg_right (by lia) (by lia)
        rw [Int.add_mul, Int.one_mul] at this; exact this
      rcases Int.lt_or_gt_of_ne hxy with h | h
      · have := hne x y h
        refine ⟨by rw [decide_eq_true h, decide_eq_true (by lia)], fun h' => by lia⟩
      · have := hne y x h
        refine ⟨by rw [decide_eq_false (by lia), decide_eq_false (by lia)], fun h' => by lia⟩
theorem pw8 {i : Nat} (h : i ≤ 8) : (8 : Int) ^ i ≤ 16777216 := by
  have h1 := Nat.pow_le_pow_right (n := 8) (by decide) h
  have e : ((8 ^ i : Nat) : Int) = 8 ^ i := by simp
  have e8 : (8 : Nat) ^ 8 = 16777216 := by decide
  lia
theorem rk_lt {S T : List Int} (hS : ∀ x ∈ S, 0 ≤ x ∧ x < 8) (hT : ∀ x ∈ T, 0 ≤ x ∧ x < 8) (lS : S.length ≤ 8) (lT : T.length ≤ 8) :
    (if (S.length : Int) = T.length then lexB S T else decide ((S.length : Int) < T.length)) = decide (rkL S < rkL T) := by
  have r1 := val_range hS
  have r2 := val_range hT
  have p1 : (8 : Int) ^ S.length ≤ 16777216 := pw8 lS
  have p2 : (8 : Int) ^ T.length ≤ 16777216 := pw8 lT
  unfold rkL
  split
  · rename_i h
    rw [(val_lex hS hT (by lia)).1, h]
    congr 1; exact propext (by lia)
  · congr 1; exact propext (by lia)
def posL : Nat → List Nat
  | 0 => [0]
  | 1 => [0, 1]
  | 2 => [0, 1, 2, 3]
  | 3 => [0, 1, 2, 4, 3, 5, 6, 7]
  | 4 => [0, 1, 2, 4, 8, 3, 5, 9, 6, 10, 12, 7, 11, 13, 14, 15]
  | 5 => [0, 1, 2, 4, 8, 16, 3, 5, 9, 17, 6, 10, 18, 12, 20, 24, 7, 11, 19, 13, 21, 25, 14, 22, 26, 28, 15, 23, 27, 29, 30, 31]
  | 6 => [0, 1, 2, 4, 8, 16, 32, 3, 5, 9, 17, 33, 6, 10, 18, 34, 12, 20, 36, 24, 40, 48, 7, 11, 19, 35, 13, 21, 37, 25, 41, 49, 14, 22, 38, 26, 42, 50, 28, 44, 52, 56, 15, 23, 39, 27, 43, 51, 29, 45, 53, 57, 30, 46, 54, 58, 60, 31, 47, 55, 59, 61, 62, 63]
  | _ => []
def sortedL (n : Nat) : List (List Int) := (posL n).map fun i => (subsL n).getD i []
theorem subs_small {k : Nat} (hk : k ≤ 8) {S : List Int} (h : S ∈ subsL k) : (∀ x ∈ S, 0 ≤ x ∧ x < 8) ∧ S.length ≤ 8 := by
  have hs := mem_subs.mp h
  refine ⟨fun x hx => ?_, ?_⟩
  · have := mem_upto.mp (hs.subset hx); lia
  · have := hs.length_le
    have e : (upto (k : Int)).length = k := by simp [upto]
    lia
theorem sorted_perm {k : Nat} (hk : k ≤ 6) : (sortedL k).Perm (subsL k) := by
  have h : ∀ n ∈ List.range 7, (sortedL n).Perm (subsL n) := by decide +kernel
  exact h k (List.mem_range.mpr (by lia))
theorem mem_sorted {k : Nat} (hk : k ≤ 6) {S : List Int} : S ∈ sortedL k ↔ S.Sublist (upto k) := (sorted_perm hk).mem_iff.trans mem_subs
theorem sorted_nodup {k : Nat} (hk : k ≤ 6) : (sortedL k).Nodup := (sorted_perm hk).nodup_iff.mpr (subs_nodup k)
theorem sorted_len {k : Nat} (hk : k ≤ 6) : (sortedL k).Pairwise (fun a b => a.length ≤ b.length) := by
  have h : ∀ n ∈ List.range 7, (sortedL n).Pairwise (fun a b => a.length ≤ b.length) := by decide +kernel
  exact h k (List.mem_range.mpr (by lia))

/-- some set parts the closed ones from those that meet fewer rules -/
theorem parts {k : Nat} (hk : k ≤ 6) {R : List (List Int)} {rules : List MRule} (hlt : rules.length < (knotsL k R (sortedL k)).length) : ∃ x : Int, 0 ≤ x ∧ x < 2 ^ k ∧ rules.all (meetsB · (setBy k x)) ≠ decide (cloL k R (setBy k x) = setBy k x) := by
  refine Classical.byContradiction fun hno => fewer_fail (n := k) (sorted_len hk) (sorted_nodup hk) (fun S => mem_sorted hk) hlt fun S hS => ?_
  obtain ⟨x, h0, h1, rfl⟩ := setBy_onto hS
  refine Classical.byContradiction fun h => hno ⟨x, h0, h1, h⟩
end Mine
end

/-! # M13 -/
section
set_option autoImplicit false
set_option linter.unusedVariables false
namespace Mine
open PySem PySem.Calls PyProof.Rows PySem.W

/-! # instances -/
theorem ns_look {h : Heap} {da : Addr} {m : Str → Option Value} (hn : h.Ns da m) : ∃ od, h.get? da = some od ∧ ∀ x, lookIn x od = some (m x) := by
  obtain ⟨o, es, ep, e, d, k, f⟩ := hn
  refine ⟨o, e, fun x => ?_⟩
  have hr : es.toList.any (·.refKey) = false := by
    rw [List.any_eq_false]
    intro b hb
    obtain ⟨n, t, q⟩ := k b (Array.mem_toList_iff.mp hb)
    simp [DictEntry.refKey, q]
  unfold lookIn
  rw [d]
  dsimp only
  rw [← f x]
  unfold nsFind findBy
  rw [← Array.find?_toList]
  cases q : es.toList.find? (fun e => e.key.isStr x) with
  | some en => rfl
  | none => simp only [hr]; rfl

theorem zlook {X : Addr → Prop} {h : Heap} {ns : List Str} {vs : List Value} {ds : List D} (r : RdAll X h vs ds) {x : Str} {d : D} (e : (ns.zip ds).lookup x = some d) : ∃ v, (ns.zip vs).lookup x = some v ∧ Rd X h v d := by
  induction ns generalizing vs ds with
  | nil => cases e
  | cons n ns ih =>
    cases r with
    | nil => cases e
    | cons a r =>
      rw [List.zip_cons_cons, List.lookup_cons] at e ⊢
      cases q : x == n with
      | true => rw [q] at e; cases e; exact ⟨_, rfl, a⟩
      | false => rw [q] at e; exact ih r e
theorem zlook_none {X : Addr → Prop} {h : Heap} {ns : List Str} {vs : List Value} {ds : List D} (r : RdAll X h vs ds) {x : Str} (e : (ns.zip ds).lookup x = none) : (ns.zip vs).lookup x = none := by
  induction ns generalizing vs ds with
  | nil => rfl
  | cons n ns ih =>
    cases r with
    | nil => rfl
    | cons a r =>
      rw [List.zip_cons_cons, List.lookup_cons] at e ⊢
      cases q : x == n with
      | true => first | exact (no1 (q) e).elim | exact (no1 e (q)).elim | (rw [q] at e; cases e)
      | false => rw [q] at e; exact ih r e

/-- a class whose instances are plain -/
structure ClsK (c : Cx) (K : Frag) (C : Addr) : Prop where
  kx : K.In c.base
  ga : findIn K (.ref C) "__getattribute__" = some (some (.builtin "object.__getattribute__"))
  gt : findIn K (.ref C) "__getattr__" = some none
  dict : (clsIn K C).any (·.hasDict) = true

theorem inst_at {X : Addr → Prop} {h : Heap} {v : Value} {C : Addr} {ns : List Str} {ds : List D} (r : Rd X h v (.inst C ns ds)) :
    ∃ a ox od vs, v = .ref a ∧ PySem.W.InstAt h a ox C (some od) ∧ (∀ x, lookIn x od = some ((ns.zip vs).lookup x)) ∧ RdAll X h vs ds := by
  cases r with
  | inst h1 h2 h3 h4 h5 h6 h7 h8 h9 =>
    obtain ⟨od, e, hl⟩ := ns_look h7
    exact ⟨_, _, od, _, rfl, ⟨h2, h3, by unfold notCls; rw [h4], by rw [h5]; exact e⟩, hl, h9⟩
def handD : D → Bool
  | .raw _ => false
  | _ => true
theorem handed {X : Addr → Prop} {h : Heap} {v : Value} {d : D} (r : Rd X h v d) (hd : handD d = true) : handedIn v = true := by cases r <;> first | rfl | cases hd
theorem findObj_val {K : Frag} {C : Addr} {od : Obj} {name : Str} {v : Value} (hd : (clsIn K C).any (·.hasDict) = true) (hf : findIn K (.ref C) name = some none) (hl : lookIn name od = some (some v)) : findObj K C (some od) name = some (.value v) := by
  obtain ⟨cd, hc, hh⟩ := any_some hd
  unfold findObj PySem.W.ownOf
  simp [hc, hf, hh, hl]

section
variable {c : Cx} {k : Nat} {env : Env} {ρ : Vars} {μ : Mem} {K : Frag} {C : Addr}

theorem ev_attr {x name : Str} {px pos : Pos} {ns : List Str} {ds : List D} {d : D} (H : ClsK c K C) (hn : findIn K (.ref C) name = some none) (he : Ev c k env ρ μ (.Name x px) (.inst C ns ds)) (hl : (ns.zip ds).lookup name = some d) (hp : handD d = true := by rfl) :
    Ev c k env ρ μ (.Attribute (.Name x px) name pos) d := by
  intro X A s hA R E
  refine Attribute_name (gives_bind (he X A s hA R) fun v s₁ k₁ r₁ => ?_)
  obtain ⟨a, ox, od, vs, rfl, I, hlk, hr⟩ := inst_at r₁
  obtain ⟨u, hu, ru⟩ := zlook hr hl
  exact get_value (H.kx.keeps (R.base.trans k₁.sub)) I H.ga (findObj_val H.dict hn (by rw [hlk, hu])) (handed ru hp) ⟨k₁.trans (Kp.tok s₁ _), ru⟩

theorem ev_meth {x name : Str} {px apos pos : Pos} {ns : List Str} {ds es : List D} {r : D} {f : Addr} {st : Stmt} {args : List Expr} {pl : Sem Bool} (H : ClsK c K C) (hf : findIn K (.ref C) name = some (some (.ref f))) (ht : typeIn K (.ref f) = some (.type "function")) (hF : FnAt c f st)
    (ho : Ev c k env ρ μ (.Name x px) (.inst C ns ds)) (ha : EvAll c k env ρ μ args es) (hFn : Fn c k f (.inst C ns ds :: es) r) (hl : (ns.zip ds).lookup name = none := by rfl) (hne : args ≠ [] := by intro h; cases h)
    (he : eval (.Call (.Attribute (.Name x px) name apos) args [] pos) env = (do
      let ov ← eval (.Name x px) env
      standAt apos.atName
      let (f, first) ← holding [ov] (getMethod ov name pl)
      callWith pos f first (backTo pos (starEach args env)) (backToKw pos (keywordEach [] env))) := by rfl) : Ev c k env ρ μ (.Call (.Attribute (.Name x px) name apos) args [] pos) r := by
  intro X A s hA R E
  refine methodCall_KW (pl := pl) (gives_bind (ho X A s hA R) fun v s₁ k₁ r₁ => ?_) he
  obtain ⟨a, ox, od, vs, rfl, I, hlk, hr⟩ := inst_at r₁
  have R₁ := R.keep k₁.sub
  refine method_fn (H.kx.keeps R₁.base) I H.ga H.gt hf ht (by show (lookIn name od).map _ = _; rw [hlk, zlook_none hr hl]; rfl) ?_
  obtain ⟨o, nm, qn, doc, pm, an, cdv, ct, ho', hd', hcd⟩ := hF
  show wpAny _ _ (callWith pos (.ref f) [.ref a] (backTo pos (starEach args env)) []) _ _ _
  refine callWith_first (first := [.ref a]) R₁ hA ha (fun s' k' => ⟨.frame, .inl rfl, fun Q' hq => ?_⟩) hne fun us s₂ k₂ r₂ => ?_
  · unfold keeperOf
    refine wpAny_bind (wpAny_load (k'.sub _ _ (R₁.base _ _ ho')) ?_)
    rw [hd']; exact wpAny_pure hq
  · have R₂ := R₁.keep k₂.sub
    exact gives_after (hFn X A s₂ (.ref a :: us) hA R₂.base R₂.live (.cons (r₁.keep k₂.sub) r₂)) (k₁.trans k₂)

/-! ## making one -/
/-- what __init__ does -/
def InitF (c : Cx) (k : Nat) (f C : Addr) (es : List D) (ns : List Str) (ds : List D) : Prop :=
  ∀ X A s vs x dx, Room k A → Sub c.base s.heap → (∀ a, X a → ∃ o, s.heap.get? a = some o) → X x → X dx → x ≠ dx → c.base.get? x = none → c.base.get? dx = none → s.heap.get? x = some (instObj C dx) → s.heap.Ns1 dx (fun _ => none) → RdAll X s.heap vs es →
    codeAny (model c.prog c.w) A (.call (.ref f) ⟨.ref x :: vs, []⟩) (fun r s' => r = .ok (.ret .none) ∧ (∀ b o, b ≠ dx → s.heap.get? b = some o → s'.heap.get? b = some o) ∧ Same s s' ∧
      ∃ us, s'.heap.Ns dx (fun y => (ns.zip us).lookup y) ∧ ns.length = us.length ∧ RdAll X s'.heap us ds) s

theorem Room.make {A : Around} (r : Room (k + 1) A) (vals : List Value) : Room k (A.under (.builtin "type.__call__" ⟨.ref C :: vals, []⟩)) := by
  refine ⟨r.handled, ?_, ?_⟩
  · have := r.depth; show A.depth + 1 + k < _; omega
  · have := r.units
    have e : (Code.builtin "type.__call__" ⟨.ref C :: vals, []⟩).cUnits = 1 := by with_unfolding_all rfl
    show A.units + (Code.builtin "type.__call__" ⟨.ref C :: vals, []⟩).cUnits + 8 * k + 200 < _
    omega

theorem ev_make {x : Str} {px pos : Pos} {fI : Addr} {args : List Expr} {es ds : List D} {ns : List Str} (H : ClsK c K C) (hm : makesIn K C = true) (hi : findIn K (.ref C) "__init__" = some (some (.ref fI))) (hf : typeIn K (.ref fI) = some (.type "function"))
    (hg : c.mg x = some (.ref C)) (ha : EvAll c (k + 1) env ρ μ args es) (hI : InitF c k fI C es ns ds) (hne : args ≠ [] := by intro h; cases h)
    (hx : env.kindOf x = some .globalImplicit := by rfl) (hd : (x == ("__debug__" : Str)) = false := by decide) : Ev c (k + 1) env ρ μ (.Call (.Name x px) args [] pos) (.inst C ns ds) := by
  intro X A s hA R E
  refine Call_ (name_global R hx hg ?_ hd)
  refine callWith_plain R hA ha (fun s' k' => ⟨.machine, .inr rfl, fun Q' hq => ?_⟩) hne fun vs s₁ k₁ r₁ => ?_
  · have Y := makes_of (M := model c.prog c.w) (H.kx.keeps (R.base.trans k'.sub)) hm
    obtain ⟨oc, od, cd, sl, hC, _⟩ := Y.obj
    unfold keeperOf
    refine wpAny_bind (wpAny_load hC ?_)
    refine wpAny_bind (Y.call.here ?_)
    exact wpAny_pure hq
  · have R₁ := R.keep k₁.sub
    have KX := H.kx.keeps R₁.base
    obtain ⟨h, g, d, t, os⟩ := s₁
    refine wpAny_call (make_core (makes_of KX hm) (looks_findIn KX hi) (fun self => bind_fn KX self hf) (.inl rfl) ?_)
    have hk : Sub h ((h.push emptyDict).push (instObj C h.objs.size)) := fun b o e => Heap.get?_push_of_some _ (Heap.get?_push_of_some _ e)
    have new : ∀ b : Nat, h.objs.size ≤ b → h.get? b = none := fun b hb => by
      refine none_of fun o e => ?_
      exact absurd (Heap.lt_size e) (Nat.not_lt.mpr hb)
    have newB : ∀ b : Nat, h.objs.size ≤ b → c.base.get? b = none := fun b hb => by
      refine none_of fun o e => ?_
      have := R₁.base b o e; first | exact (no1 (new b hb) this).elim | exact (no1 this (new b hb)).elim | (rw [new b hb] at this; cases this)
    have hx : ((h.push emptyDict).push (instObj C h.objs.size)).get? (h.objs.size + 1) = some (instObj C h.objs.size) := by
      have := Heap.get?_push_size (h.push emptyDict) (o := instObj C h.objs.size) rfl
      rwa [Heap.size_push] at this
    have hns : ((h.push emptyDict).push (instObj C h.objs.size)).Ns h.objs.size (fun _ => none) := (Heap.Ns.new h (.type "dict")).keeps fun b o e => Heap.get?_push_of_some _ e
    refine codeAny_mono (hI (fun b => X b ∨ b = h.objs.size + 1 ∨ b = h.objs.size) _ _ vs (h.objs.size + 1) h.objs.size (hA.make vs) (R₁.base.trans hk) (fun a ha => ?_) (.inr (.inl rfl)) (.inr (.inr rfl)) (Nat.succ_ne_self _) (newB _ (Nat.le_succ _)) (newB _ (Nat.le_refl _)) hx (Heap.Ns1.of_empty hns) (r₁.mono fun b o n e => ⟨?_, hk b o e⟩)) fun r s' z => ?_
    · rcases ha with q | q | q
      · exact (R₁.live a q).imp fun o e => hk a o e
      · exact ⟨_, q ▸ hx⟩
      · obtain ⟨o, _, _, e, _⟩ := hns; exact ⟨o, q ▸ e⟩
    · have := Heap.lt_size e
      rintro (q | q | q)
      · exact n q
      · subst q; exact absurd this (by simp)
      · subst q; exact absurd this (Nat.lt_irrefl _)
    · obtain ⟨rfl, z1, z2, us, z3, z4, z5⟩ := z
      refine ⟨rfl, ?_⟩
      have kk : Kp (⟨h, g, d, t, os⟩ : Shared) s' := ⟨fun b o e => z1 b o (fun q => by subst q; exact absurd (Heap.lt_size e) (Nat.lt_irrefl _)) (hk b o e), ⟨z2.os, z2.gens⟩⟩
      have nX : ∀ b : Nat, h.objs.size ≤ b → ¬ X b := fun b hb q => by obtain ⟨o, e⟩ := R₁.live b q; first | exact (no1 (new b hb) e).elim | exact (no1 e (new b hb)).elim | (rw [new b hb] at e; cases e)
      exact ⟨k₁.trans kk, .inst (nX _ (Nat.le_succ _)) (z1 _ _ (Nat.succ_ne_self _) hx) rfl rfl rfl (nX _ (Nat.le_refl _)) z3 z4 (z5.weak fun _ q => .inl q)⟩

/-! ## within __init__ -/
theorem set_attr {A : Around} {E : Value → Shared → Prop} {s : Shared} {x dx : Addr} {name : Str} {v : Value} {m : Str → Option Value} {ns : List Str} {Q : Unit → Shared → Prop} (KX : K.In s.heap) (hsa : findIn K (.ref C) "__setattr__" = some (some (.builtin "object.__setattr__")))
    (hp : plainOver K C = true) (hn : findIn K (.ref C) name = some none) (hd : (clsIn K C).any (·.hasDict) = true) (hx : s.heap.get? x = some (instObj C dx)) (hns : s.heap.Ns1 dx m) (hw : Within m ns) (hz : ns.length ≤ 1000)
    (h : ∀ h' t, h'.Ns1 dx (fun y => if y = name then some v else m y) → Heap.SameBut dx s.heap h' → Q () { s with heap := h', toks := t }) : wpAny (model c.prog c.w) A (setAttr (.ref x) name v) Q E s := by
  obtain ⟨od, ho, hl⟩ := ns_look hns.ns
  have I : PySem.W.InstAt s.heap x (instObj C dx) C (some od) := ⟨hx, rfl, rfl, ho⟩
  refine set_plain KX I hsa ?_
  have ht : takerIn K C name = some none := by unfold takerIn; rw [hn]; rfl
  refine osa_open (s := { s with toks := s.toks + 1 }) KX I hp ht fun b => ?_
  obtain ⟨cd, hc, hd'⟩ := any_some hd
  refine wpAny_bind (wpAny_pure (wpAny_bind (wpAny_bind (wpAny_loadPart (s := { s with toks := s.toks + 1 }) hx (wpAny_bind (Looks.here (s := { s with toks := s.toks + 1 }) (looks_clsIn KX hc) ?_))))))
  rw [hd']
  refine wpAny_pure (a := some dx) (wpAny_bind (wpAny_pure (wpAny_bind ?_)))
  refine wpAny_nsSet1 (s := { s with toks := s.toks + 1 }) hns fun h' h1 h2 => ?_
  obtain ⟨oD, esD, epD, hoD, hdD, hcD⟩ := h1.count (Within.cons name v hw)
  refine wpAny_bind (wpAny_lookBehind (s := { s with heap := h', toks := s.toks + 1 + 1 }) hoD (by rw [hdD]; exact pastItsLine_dict (Nat.le_trans hcD (by rw [List.length_cons, sizeLine_eq]; omega))) (wpAny_pure ?_))
  exact h h' _ h1 h2

/-- more is fixed -/
def Cx.on (c : Cx) (h : Heap) (k : Sub c.base h) : Cx := { c with base := h, g := c.g.keeps k, b := c.b.keeps k, nolimit := c.nolimit.keeps k }
theorem FnAt.on {h : Heap} {f : Addr} {st : Stmt} (x : FnAt c f st) (k : Sub c.base h) : FnAt (c.on h k) f st := by
  obtain ⟨o, nm, qn, doc, pm, an, cdv, ct, ho, hd, hcd⟩ := x
  exact ⟨o, nm, qn, doc, pm, an, cdv, ct, k _ _ ho, hd, hcd.keeps k⟩
theorem ClsK.on {h : Heap} (x : ClsK c K C) (k : Sub c.base h) : ClsK (c.on h k) K C := ⟨x.kx.keeps k, x.ga, x.gt, x.dict⟩
theorem St.on {X₀ : Addr → Prop} {s : Shared} (S : St c X₀ env ρ μ s) : ∃ h, ∃ k : Sub c.base h, St (c.on h k) X₀ env ρ μ s ∧ ∀ a o, s.heap.get? a = some o → ¬ Mut env μ a → h.get? a = some o := by
  let l : List Addr := env.locals :: (env.cells.filterMap (fun p => env.cells.lookup p.1) ++ μ.map (·.1))
  have hl : ∀ a, a ∈ l ↔ Mut env μ a := fun a => by
    constructor
    · intro h
      rcases List.mem_cons.mp h with q | q
      · exact .inl q
      · rcases List.mem_append.mp q with q | q
        · obtain ⟨p, _, e⟩ := List.mem_filterMap.mp q; exact .inr (.inl ⟨p.1, e⟩)
        · obtain ⟨p, hp, rfl⟩ := List.mem_map.mp q; exact .inr (.inr ⟨p.2, hp⟩)
    · rintro (q | ⟨n, q⟩ | ⟨ds, q⟩)
      · exact List.mem_cons.mpr (.inl q)
      · exact List.mem_cons.mpr (.inr (List.mem_append_left _ (List.mem_filterMap.mpr ⟨(n, a), mem_of_lookup q, q⟩)))
      · exact List.mem_cons.mpr (.inr (List.mem_append_right _ (List.mem_map.mpr ⟨_, q, rfl⟩)))
  have kb : Sub c.base (hideAll s.heap l) := fun a o e => hideAll_get l (S.base a o e) fun q => by first | exact (no1 (S.own a ((hl a).mp q)) e).elim | exact (no1 e (S.own a ((hl a).mp q))).elim | (rw [S.own a ((hl a).mp q)] at e; cases e)
  refine ⟨hideAll s.heap l, kb, { S with base := fun a o e => of_hideAll l e, own := fun a m => hideAll_none l ((hl a).mpr m) }, fun a o e n => hideAll_get l e fun q => n ((hl a).mp q)⟩
theorem St.off {X₀ : Addr → Prop} {s : Shared} {h : Heap} {k : Sub c.base h} (S : St (c.on h k) X₀ env ρ μ s) : St c X₀ env ρ μ s := by
  refine { S with base := k.trans S.base, own := fun a m => ?_ }
  refine none_of fun o e => ?_
  exact absurd ((k a o e).symm.trans (S.own a m)) (by intro q; cases q)

/-- what is being made, lent out: its fields are plain -/
theorem ev_lendI {x dx : Addr} {n : Str} {ns : List Str} {us : List Value} {ds : List D} {e : Expr} {d : D} (hx : c.base.get? x = some (instObj C dx)) (hns : c.base.Ns dx (fun y => (ns.zip us).lookup y)) (hl : ns.length = us.length) (hr : RdAll (fun _ => True) c.base us ds) (hsc : ∀ d ∈ ds, scalar d = true)
    (hn : ρ.lookup n = some (.raw (.ref x))) (he : Ev c k env ((n, .inst C ns ds) :: ρ) [] e d) (hs : scalar d = true := by rfl) : Ev c k env ρ [] e d := by
  intro X A s hA R E
  have R' : Rc c (fun b => X b ∧ b ≠ x ∧ b ≠ dx) env ((n, .inst C ns ds) :: ρ) [] s := by
    refine ⟨R.ok, R.base, fun a h => R.live a h.1, fun n' a h => ?_, R.apart, fun y d' q => ?_, fun a es h => (nomatch h)⟩
    · obtain ⟨h1, h2, h3⟩ := R.cel n' a h
      refine ⟨⟨h1, fun q => ?_, fun q => ?_⟩, h2, h3⟩
      · rw [q, hx] at h2; cases h2
      · obtain ⟨o, _, _, e, _⟩ := hns; rw [q, e] at h2; cases h2
    · rw [List.lookup_cons] at q
      cases hb : y == n with
      | true =>
        first | exact (no1 (hb) q).elim | exact (no1 q (hb)).elim | (rw [hb] at q; cases q)
        obtain ⟨v, hv, r⟩ := R.vars n _ hn
        cases r
        rw [beq_iff_eq.mp hb]
        exact ⟨_, hv, .inst (fun z => z.2.1 rfl) (R.base _ _ hx) rfl rfl rfl (fun z => z.2.2 rfl) (hns.keeps R.base) hl (hr.scalar hsc)⟩
      | false =>
        rw [hb] at q
        obtain ⟨v, hv, r⟩ := R.vars y d' q
        exact ⟨v, hv, r.weak fun _ z => z.1⟩
  exact wpAny_mono (he _ A s hA R' E) (fun _ _ q => ⟨q.1, q.2.scalar hs⟩) fun _ _ e => e

/-! ## the steps of an __init__ -/
structure MkI (c : Cx) (X : Addr → Prop) (env : Env) (x dx : Addr) : Prop where
  X : X dx
  base : c.base.get? dx = none
  nx : ¬ Mut env [] x
  nd : ¬ Mut env [] dx
  ne : x ≠ dx
structure Mkg (C x dx : Addr) (m : Str → Option Value) (s : Shared) : Prop where
  x : s.heap.get? x = some (instObj C dx)
  ns : s.heap.Ns1 dx m
structure GoI (env : Env) (dx : Addr) (s s' : Shared) : Prop where
  same : Same s s'
  keep : ∀ b o, b ≠ dx → ¬ Mut env [] b → s.heap.get? b = some o → s'.heap.get? b = some o
theorem GoI.trans {dx : Addr} {s s' s'' : Shared} (a : GoI env dx s s') (b : GoI env dx s' s'') : GoI env dx s s'' := ⟨a.same.trans b.same, fun y o n m e => b.keep y o n m (a.keep y o n m e)⟩

section
variable {X : Addr → Prop} {A : Around} {E : Value → Shared → Prop} {s : Shared} {x dx : Addr} {m : Str → Option Value} {Q : Flow → Shared → Prop}
theorem step_self {self attr : Str} {px apos pos : Pos} {e : Expr} {d : D} {ns : List Str} (I : MkI c X env x dx) (S : St c X env ρ [] s) (N : Mkg C x dx m s) (hA : Room k A) (kx : K.In c.base) (hsa : findIn K (.ref C) "__setattr__" = some (some (.builtin "object.__setattr__")))
    (hp : plainOver K C = true) (hn : findIn K (.ref C) attr = some none) (hd : (clsIn K C).any (·.hasDict) = true) (hw : Within m ns) (hz : ns.length ≤ 1000) (he : Ev c k env ρ [] e d) (hself : ρ.lookup self = some (.raw (.ref x)))
    (h : ∀ v s', St c X env ρ [] s' → GoI env dx s s' → Mkg C x dx (fun y => if y = attr then some v else m y) s' → Rd (XOf X env []) s'.heap v d → Q .next s') (hdb : (self == ("__debug__" : Str)) = false := by decide)
    (hs : swapsWith e (some (.Attribute (.Name self px) attr apos)) pos.line env = pure false := by rfl) : wpAny (model c.prog c.w) A (exec (.Assign [.Attribute (.Name self px) attr apos] e pos) env) Q E s := by
  refine plainObj_wpAny_Assign_Attribute (gives_bind (he _ _ s hA S.rc) fun v s₁ k₁ r₁ => ?_) hs
  refine gives_bind (ev_name hself hdb _ _ s₁ hA (S.kp k₁).rc) fun u s₂ k₂ r₂ => ?_
  have S₂ := (S.kp k₁).kp k₂
  have kk := k₁.trans k₂
  cases r₂
  refine set_attr (kx.keeps S₂.base) hsa hp hn hd (kk.sub _ _ N.x) (N.ns.at fun o e => kk.sub _ _ e) hw hz fun h' t' hns' hsb' => ?_
  exact h v _ (S₂.butX I.X I.base I.nd hsb' (let ⟨o, _, _, e, _⟩ := hns'; ⟨o, e⟩)) ⟨kk.same.trans ⟨rfl, rfl⟩, fun b o n _ e => hsb'.extBut b o n (kk.sub _ _ e)⟩ ⟨hsb'.extBut _ _ I.ne (kk.sub _ _ N.x), hns'⟩ ((r₁.keep k₂.sub).but (.inl I.X) hsb')
theorem step_ex {st : Stmt} {ρ₀ : Vars} (I : MkI c X env x dx) (S : St c X env ρ [] s) (N : Mkg C x dx m s) (hA : Room k A) (hE : Ex1 c k env ρ [] st (fun o ρ' μ' => o = .next ∧ (∀ y d, ρ₀.lookup y = some d → ρ'.lookup y = some d) ∧ μ' = []))
    (h : ∀ s', St c X env ρ₀ [] s' → GoI env dx s s' → Mkg C x dx m s' → Q .next s') : wpAny (model c.prog c.w) A (exec st env) Q E s := by
  refine wpAny_mono (hE X A s E hA S) (fun fl s' p => ?_) fun _ _ e => e
  obtain ⟨o, ρ', μ', a, S', g, rfl, hρ, rfl⟩ := p
  cases fl <;> first | exact a.elim | skip
  exact h s' (S'.weak hρ) ⟨g.same, fun b o _ n e => g.keep b o n e⟩ ⟨g.keep _ _ I.nx N.x, N.ns.at fun o e => g.keep _ _ I.nd e⟩
theorem step_on {st : Stmt} {ρ₀ : Vars} (I : MkI c X env x dx) (S : St c X env ρ [] s) (N : Mkg C x dx m s) (hA : Room k A)
    (hE : ∀ hb kb, (c.on hb kb).base.get? x = some (instObj C dx) → (c.on hb kb).base.Ns dx m → Ex1 (c.on hb kb) k env ρ [] st (fun o ρ' μ' => o = .next ∧ (∀ y d, ρ₀.lookup y = some d → ρ'.lookup y = some d) ∧ μ' = []))
    (h : ∀ s', St c X env ρ₀ [] s' → GoI env dx s s' → Mkg C x dx m s' → Q .next s') : wpAny (model c.prog c.w) A (exec st env) Q E s := by
  obtain ⟨hb, kb, S₁, keepb⟩ := S.on
  refine wpAny_mono (hE hb kb (keepb _ _ N.x I.nx) (let ⟨o, es, ep, e, r⟩ := N.ns.ns; ⟨o, es, ep, keepb _ _ e I.nd, r⟩) X A s E hA S₁) (fun fl s' p => ?_) fun _ _ e => e
  obtain ⟨o, ρ', μ', a, S', g, rfl, hρ, rfl⟩ := p
  cases fl <;> first | exact a.elim | skip
  exact h s' (S'.off.weak hρ) ⟨g.same, fun b o _ n e => g.keep b o n e⟩ ⟨g.keep _ _ I.nx N.x, N.ns.at fun o e => g.keep _ _ I.nd e⟩
end

theorem ex_expr {Q : Out → Vars → Mem → Prop} {e : Expr} {d : D} {pos : Pos} (he : Ev c k env ρ μ e d) (h : Q .next ρ μ) (hi : interactive env = false := by rfl) (hs : swapsWith e none pos.line env = pure false := by rfl) : Ex1 c k env ρ μ (.Expr e pos) Q := by
  intro X₀ A s E hA S
  exact wpAny_Expr_any (gives_bind (he _ A s hA S.rc) fun v s₁ k₁ r₁ => ⟨.next, ρ, μ, trivial, S.kp k₁, Go.of_kp k₁, h⟩) hi hs
end
end Mine
end

/-! # M15 -/
section
set_option autoImplicit false
set_option maxRecDepth 100000
set_option linter.unusedVariables false
namespace Mine
open PySem PySem.Calls PyProof.Rows PySem.MeetsSeq
open AutoSeq1 (wpAny_loadPart')

theorem ints_at {items : Array Value} {ms : List Int} {i : Nat} (h : IntsAre (items.toList.drop i) ms) : (ms = [] → items[i]? = none) ∧ ∀ m ms', ms = m :: ms' → ∃ t, items[i]? = some (.int m t) ∧ IntsAre (items.toList.drop (i + 1)) ms' := by
  refine ⟨fun e => ?_, fun m ms' e => ?_⟩
  · subst e
    have := h.length
    simp at this ⊢; lia
  · subst e
    generalize hL : items.toList.drop i = L at h
    cases h with
    | cons _ t r =>
      refine ⟨t, ?_, ?_⟩
      · have := congrArg (·[0]?) hL
        simpa using this
      · have := congrArg (List.drop 1) hL
        rw [List.drop_drop] at this
        rw [this]; exact r

theorem lt_loop {l b : Addr} {items items2 : Array Value} {n n2 : Nat} {dd dd2 : Option Addr} {sl sl2 : Array (Option Value)} : ∀ (ms ns : List Int) (i : Nat), IntsAre (items.toList.drop i) ms → IntsAre (items2.toList.drop i) ns → i ≤ items.size → i ≤ items2.size →
    Meets (Builtin.«list.__eq__.loop» ⟨[.ref l, .ref b, rawInt i, rawInt 0], []⟩)
      (fun _ R s => s.heap.get? l = some { cls := .type "list", dict := dd, data := .seq items n, slots := sl } ∧ s.heap.get? b = some { cls := .type "list", dict := dd2, data := .seq items2 n2, slots := sl2 } ∧
        R (.ok (.ret (.bool (lexB ms ns)))) s) := by
  intro ms
  induction ms with
  | nil =>
    intro ns i h1 h2 l1 l2 prog w A R s h
    obtain ⟨hp, g, d, tk, os⟩ := s; obtain ⟨hl, hb, h⟩ := h
    wp_walk using wpAny_loadPart' hl, wpAny_loadPart' hb
    have hi1 : items[((i : Nat) : Int).toNat]? = none := by simpa using (ints_at h1).1 rfl
    rw [hi1]
    wp_walk using wpAny_loadPart' hl, wpAny_loadPart' hb
    have e1 : items.size = i := by have := h1.length; simp at this; lia
    have e2 : items2.size = i + ns.length := by have := h2.length; simp at this; lia
    show R (.ok (.ret (.bool (decide (items.size < items2.size))))) _
    have : lexB [] ns = decide (items.size < items2.size) := by
      rw [e1, e2]
      cases ns with
      | nil => simp [lexB]
      | cons _ _ => simp [lexB]
    rwa [this] at h
  | cons x ms ih =>
    intro ns i h1 h2 l1 l2 prog w A R s h
    obtain ⟨t, hx, r1⟩ := (ints_at h1).2 x ms rfl
    obtain ⟨hp, g, d, tk, os⟩ := s; obtain ⟨hl, hb, h⟩ := h
    wp_walk using wpAny_loadPart' hl, wpAny_loadPart' hb
    have hi1 : items[((i : Nat) : Int).toNat]? = some (.int x t) := by simpa using hx
    have e1 : items.size = i + (ms.length + 1) := by have := h1.length; simp at this; lia
    cases ns with
    | nil =>
      have hi2 : items2[((i : Nat) : Int).toNat]? = none := by simpa using (ints_at h2).1 rfl
      have e2 : items2.size = i := by have := h2.length; simp at this; lia
      rw [hi1, hi2]
      wp_walk using wpAny_loadPart' hl, wpAny_loadPart' hb
      show R (.ok (.ret (.bool (decide (items.size < items2.size))))) _
      have : lexB (x :: ms) [] = decide (items.size < items2.size) := by
        rw [e1, e2]; simp [lexB]
      rwa [this] at h
    | cons y ns =>
      obtain ⟨u, hy, r2⟩ := (ints_at h2).2 y ns rfl
      have hi2 : items2[((i : Nat) : Int).toNat]? = some (.int y u) := by simpa using hy
      have e2 : items2.size = i + (ns.length + 1) := by have := h2.length; simp at this; lia
      rw [hi1, hi2]
      have hc : ((i : Int) + 1) = ((i + 1 : Nat) : Int) := by push_cast; rfl
      refine wpAny_bind (wpAny_eqBool_int ?_)
      by_cases hxy : x = y
      · subst hxy
        have hl2 : lexB (x :: ms) (x :: ns) = lexB ms ns := by simp [lexB]
        rw [hl2] at h
        rw [beq_self_eq_true]
        wp_walk
        rw [hc]
        exact ⟨plainId_quiet MeetsSeq3.plain_eq_loop _, codeAny_builtin MeetsSeq3.entry_eq_loop (by
          rw [Around.under_plainId MeetsSeq3.plain_eq_loop _]
          exact ih ns (i + 1) r1 r2 (by lia) (by lia) prog w A R _ ⟨hl, hb, h⟩)⟩
      · have hl2 : lexB (x :: ms) (y :: ns) = decide (x < y) := by simp [lexB, hxy]
        rw [hl2] at h
        rw [show (x == y) = false by simpa using hxy]
        wp_walk using wpAny_loadPart' hl, wpAny_loadPart' hb
        rw [hi1, hi2]
        refine wpAny_bind (PyProof.Rows.lt_int ?_)
        exact wpAny_pure h

theorem list_ltM {l b : Addr} {items items2 : Array Value} {n n2 : Nat} {dd dd2 : Option Addr} {sl sl2 : Array (Option Value)} {ms ns : List Int} (h1 : IntsAre items.toList ms) (h2 : IntsAre items2.toList ns) :
    Meets (Builtin.«list.__lt__» ⟨[.ref l, .ref b], []⟩)
      (fun _ R s => s.heap.get? l = some { cls := .type "list", dict := dd, data := .seq items n, slots := sl } ∧ s.heap.get? b = some { cls := .type "list", dict := dd2, data := .seq items2 n2, slots := sl2 } ∧
        R (.ok (.ret (.bool (lexB ms ns)))) s) := by
  intro prog w A R s h
  obtain ⟨hp, g, d, tk, os⟩ := s; obtain ⟨hl, hb, h⟩ := h
  have f3 := AutoSeq1.sub_list_list
  wp_walk using wpAny_loadPart' hl, wpAny_loadPart' hb
  exact ⟨plainId_quiet MeetsSeq3.plain_eq_loop _, codeAny_builtin MeetsSeq3.entry_eq_loop (by
    rw [Around.under_plainId MeetsSeq3.plain_eq_loop _]
    exact lt_loop ms ns 0 h1 h2 (Nat.zero_le _) (Nat.zero_le _) prog w A R _ ⟨hl, hb, h⟩)⟩

theorem lt_lists {prog : Program} {w : World} {A : Around} {E : Value → Shared → Prop} {s : Shared} {Q : Value → Shared → Prop} {l b : Addr} {o o2 : Obj} {items items2 : Array Value} {n n2 : Nat} {ms ns : List Int} (ho : s.heap.get? l = some o) (hc : o.cls = .type "list") (hd : o.data = .seq items n)
    (ho2 : s.heap.get? b = some o2) (hc2 : o2.cls = .type "list") (hd2 : o2.data = .seq items2 n2) (h1 : IntsAre items.toList ms) (h2 : IntsAre items2.toList ns) (hu : A.units < cLine) (hq : Q (.bool (lexB ms ns)) s) : wpAny (model prog w) A (compareOp .Lt (.ref l) (.ref b)) Q E s := by
  obtain ⟨cls, dd, data, sl⟩ := o
  obtain ⟨cls2, dd2, data2, sl2⟩ := o2
  simp only at hc hd hc2 hd2
  subst hc hd hc2 hd2
  show wpAny _ _ (richCompare .Lt (.ref l) (.ref b)) _ _ _
  exact richCompare_meets_room ⟨_, ho, rfl⟩ ⟨_, ho2, rfl⟩ PySem.F.slot_list_lt PySem.F.entry_list_lt (PySem.F.args_list_lt_2 _ _) (list_ltM h1 h2) ⟨ho, ho2, show _ ∧ _ from ⟨(by intro h; cases h), hq⟩⟩ hu
end Mine
end

/-! # MX -/
section
set_option autoImplicit false
set_option maxRecDepth 100000
set_option linter.unusedVariables false
namespace Mine
open PySem PyProof.Rows

/-! # the sort of 64 items whose order is known: by a pure run -/
abbrev SM := StateT SortSt Sem
def gallop' : Bool → Keyed → Array Keyed → Nat → Nat → Nat → SM (Option Nat) := sortPriv% PySem.Builtin.gallop
def mergeLo' : Array Keyed → Array Keyed → SM (Array Keyed) := sortPriv% PySem.Builtin.mergeLo

def loopX {γ : Type} (g : γ → Option (Bool × γ)) : Nat → γ → Option γ
  | 0, c => some c
  | n + 1, c => match g c with
    | none => none
    | some (true, d) => loopX g n d
    | some (false, d) => some d
def look (p : Array Nat) (i : Nat) : Option Nat := match p[i]? with
  | some x => if x < 64 then some x else none
  | none => none
theorem look_get {p : Array Nat} {i x : Nat} (h : look p i = some x) : p[i]? = some x ∧ x < 64 := by
  unfold look at h
  split at h
  · rename_i y e
    split at h
    · cases h; exact ⟨e, by assumption⟩
    · cases h
  · cases h

section
variable {M : Model} {A : Around} {E : Value → Shared → Prop} {s : Shared} {σ α β γ : Type}
/-- it answers a, and leaves st' -/
def Runs (M : Model) (A : Around) (E : Value → Shared → Prop) (s : Shared) (m : StateT σ Sem α) (st : σ) (a : α) (st' : σ) : Prop := ∀ Q : α → σ → Prop, Q a st' → wpS M A E s m Q st
theorem run_pure {a : α} {st : σ} : Runs M A E s (pure a) st a st := fun _ h => wpS_pure h
theorem run_bind {m : StateT σ Sem α} {f : α → StateT σ Sem β} {st st₁ st₂ : σ} {a : α} {b : β} (h1 : Runs M A E s m st a st₁) (h2 : Runs M A E s (f a) st₁ b st₂) : Runs M A E s (m >>= f) st b st₂ := fun Q hq => wpS_bind (h1 _ (h2 Q hq))
theorem run_get {st : σ} : Runs M A E s (get : StateT σ Sem σ) st st st := fun _ h => wpS_get h
theorem run_modify {f : σ → σ} {st : σ} : Runs M A E s (modify f : StateT σ Sem PUnit) st ⟨⟩ (f st) := fun _ h => wpS_modify h
theorem run_set {st st' : σ} : Runs M A E s (set st' : StateT σ Sem PUnit) st ⟨⟩ st' := fun Q h => by unfold wpS; rw [StateT.run_set]; exact wpAny_pure ⟨rfl, h⟩
theorem run_ifp {c : Prop} {_ : Decidable c} {t e : StateT σ Sem β} {st st' : σ} {b : β} (h : c) (hm : Runs M A E s t st b st') : Runs M A E s (if c then t else e) st b st' := by rw [if_pos h]; exact hm
theorem run_ifn {c : Prop} {_ : Decidable c} {t e : StateT σ Sem β} {st st' : σ} {b : β} (h : ¬ c) (hm : Runs M A E s e st b st') : Runs M A E s (if c then t else e) st b st' := by rw [if_neg h]; exact hm
theorem run_next {f : Nat → β → StateT σ Sem (ForInStep β)} {x : Nat} {l : List Nat} {c d b : β} {st st₁ st₂ : σ} (h : Runs M A E s (f x c) st (.yield d) st₁) (h2 : Runs M A E s (forIn l d f) st₁ b st₂) : Runs M A E s (forIn (x :: l) c f) st b st₂ := by
  rw [List.forIn_cons]; exact run_bind h h2
theorem run_stop {f : Nat → β → StateT σ Sem (ForInStep β)} {x : Nat} {l : List Nat} {c d : β} {st st₁ : σ} (h : Runs M A E s (f x c) st (.done d) st₁) : Runs M A E s (forIn (x :: l) c f) st d st₁ := by
  rw [List.forIn_cons]; exact run_bind h run_pure
theorem run_range {f : Nat → β → StateT σ Sem (ForInStep β)} {a b n : Nat} {c d : β} {st st' : σ} (hn : b - a = n) (h : Runs M A E s (forIn (List.range' a n) c f) st d st') : Runs M A E s (forIn [a:b] c f) st d st' := by
  rw [Std.Legacy.Range.forIn_eq_forIn_range']
  have hsz : ([a:b] : Std.Legacy.Range).size = n := by simp [Std.Legacy.Range.size, hn]
  show Runs M A E s (forIn (List.range' a ([a:b] : Std.Legacy.Range).size 1) c f) st d st'
  rw [hsz]
  exact h
theorem run_first {f : Nat → β → StateT σ Sem (ForInStep β)} {a b n : Nat} {c d : β} {st st' : σ} (hn : b - a = n + 1) (h : Runs M A E s (f a c) st (.done d) st') : Runs M A E s (forIn [a:b] c f) st d st' :=
  run_range hn (by rw [List.range'_succ]; exact run_stop h)
theorem run_more {f : Nat → β → StateT σ Sem (ForInStep β)} {a b n : Nat} {c d e : β} {st st₁ st' : σ} (hn : b - a = n + 1) (h : Runs M A E s (f a c) st (.yield e) st₁) (h2 : Runs M A E s (forIn (List.range' (a + 1) n) e f) st₁ d st') : Runs M A E s (forIn [a:b] c f) st d st' :=
  run_range hn (by rw [List.range'_succ]; exact run_next h h2)
theorem sim_loop {f : Nat → β → StateT σ Sem (ForInStep β)} {g : γ → Option (Bool × γ)} (rb : γ → β) (rs : γ → σ)
    (hb : ∀ x c b d, g c = some (b, d) → Runs M A E s (f x (rb c)) (rs c) (cond b (.yield (rb d)) (.done (rb d))) (rs d)) (l : List Nat) : ∀ c d, loopX g l.length c = some d → Runs M A E s (forIn l (rb c) f) (rs c) (rb d) (rs d) := by
  induction l with
  | nil => intro c d h; cases h; rw [List.forIn_nil]; exact run_pure
  | cons x l ih =>
    intro c d h
    simp only [List.length_cons, loopX] at h
    split at h
    · cases h
    · rename_i d' e
      exact run_next (hb x c true d' e) (ih d' d h)
    · rename_i d' e
      cases h
      exact run_stop (hb x c false d e)
theorem sim_range {f : Nat → β → StateT σ Sem (ForInStep β)} {g : γ → Option (Bool × γ)} (rb : γ → β) (rs : γ → σ) {a b : Nat} {c d : γ}
    (hb : ∀ x c b d, g c = some (b, d) → Runs M A E s (f x (rb c)) (rs c) (cond b (.yield (rb d)) (.done (rb d))) (rs d)) (h : loopX g (b - a) c = some d) : Runs M A E s (forIn [a:b] (rb c) f) (rs c) (rb d) (rs d) :=
  run_range rfl (sim_loop rb rs hb _ c d (by rw [List.length_range']; exact h))
end

section
variable {prog : Program} {w : World} {A : Around} {E : Value → Shared → Prop} {s : Shared} {κ : SortKind} {it : Nat → Keyed} {pend : Array (Nat × Nat × Nat)} {mg : Nat}
def stX (κ : SortKind) (it : Nat → Keyed) (pend : Array (Nat × Nat × Nat)) (mg : Nat) (p : Array Nat) : SortSt := SortSt.mk' κ (p.map it) pend mg none
def LtX (prog : Program) (w : World) (A : Around) (E : Value → Shared → Prop) (s : Shared) (κ : SortKind) (it : Nat → Keyed) : Prop :=
  ∀ (st : SortSt) (x y : Nat), kindOf st = κ → x < 64 → y < 64 → Runs (model prog w) A E s (lt' (it x) (it y)) st (some (decide (x < y))) st
theorem elemX {p : Array Nat} {i x : Nat} {st : SortSt} (h : look p i = some x) : Runs (model prog w) A E s (elem' (p.map it) i) st (it x) st := by
  rw [elem'_eq, Array.getElem?_map, (look_get h).1]; exact run_pure
theorem ltAtX (hC : LtX prog w A E s κ it) {p : Array Nat} {i j x y : Nat} (h1 : look p i = some x) (h2 : look p j = some y) : Runs (model prog w) A E s (ltAt' i j) (stX κ it pend mg p) (some (decide (x < y))) (stX κ it pend mg p) := by
  rw [ltAt'_eq]
  exact run_bind run_get (run_bind (elemX (p := p) h1) (run_bind (elemX (p := p) h2) (hC _ _ _ rfl (look_get h1).2 (look_get h2).2)))

/-! ## a rising run -/
def ascX (p : Array Nat) (lo n : Nat) : Option (Bool × Nat) := do
  let x ← look p (lo + n)
  let y ← look p (lo + n - 1)
  if x < y then some (false, n) else some (true, n + 1)
def countX (p : Array Nat) (lo nrem : Nat) : Option Nat := do
  let n ← loopX (ascX p lo) (nrem - 1) 1
  let x ← look p lo
  let y ← look p (lo + n - 1)
  if (n == nrem) = false ∧ n > 1 ∧ x < y then some n else none
theorem opt_elim {α β : Type} {o : Option α} {f : α → Option β} {r : β} {G : Prop} (e : o.bind f = some r) (h : ∀ x, o = some x → f x = some r → G) : G := let ⟨x, e1, e2⟩ := Option.bind_eq_some_iff.mp e; h x e1 e2
theorem ite_elim {α : Type} {p : Prop} [Decidable p] {x y r : α} {G : Prop} (e : (if p then x else y) = r) (h1 : p → x = r → G) (h2 : ¬ p → y = r → G) : G := by
  by_cases h : p
  · rw [if_pos h] at e; exact h1 h e
  · rw [if_neg h] at e; exact h2 h e
theorem ite_some {α : Type} {p : Prop} [Decidable p] {x r : α} (e : (if p then some x else none) = some r) : p ∧ x = r := ite_elim e (fun h e => ⟨h, Option.some.inj e⟩) fun _ e => nomatch e
theorem pair_eq {α β : Type} {a a' : α} {b b' : β} {H : α → β → Prop} (e : (a, b) = (a', b')) (h : H a b) : H a' b' := by cases e; exact h
theorem count_sim (hC : LtX prog w A E s κ it) {p : Array Nat} {lo nrem n : Nat} (h : countX p lo nrem = some n) : Runs (model prog w) A E s (countRun' lo nrem) (stX κ it pend mg p) (some n) (stX κ it pend mg p) := by
  refine opt_elim h fun m h1 h => opt_elim h fun x h2 h => opt_elim h fun y h3 h => ?_
  obtain ⟨hc, q⟩ := ite_some h
  rw [← q]
  refine run_bind (sim_range (fun n => ((none, n) : AscSt)) (fun _ => stX κ it pend mg p) (fun i c b d e => ?_) h1) (run_ifn (by rw [hc.1]; decide) (run_ifp hc.2.1 (run_bind (ltAtX hC h2 h3) (run_ifp (decide_eq_true hc.2.2) run_pure))))
  refine opt_elim e fun x e1 e => opt_elim e fun y e2 e => run_bind (ltAtX hC e1 e2) (ite_elim e (fun hxy e => ?_) fun hxy e => ?_)
  · exact pair_eq (H := fun b d => Runs (model prog w) A E s _ _ (cond b (ForInStep.yield ((none, d) : AscSt)) (ForInStep.done ((none, d) : AscSt))) _) (Option.some.inj e) (run_ifp (decide_eq_true hxy) run_pure)
  · exact pair_eq (H := fun b d => Runs (model prog w) A E s _ _ (cond b (ForInStep.yield ((none, d) : AscSt)) (ForInStep.done ((none, d) : AscSt))) _) (Option.some.inj e) (run_ifn (by simpa using hxy) run_pure)

/-! ## insertion -/
def placeX (p : Array Nat) (lo key : Nat) (c : Nat × Nat) : Option (Bool × (Nat × Nat)) :=
  if c.1 ≥ c.2 then some (false, c) else do
    let y ← look p (lo + (c.1 + c.2) / 2)
    if key < y then some (true, (c.1, (c.1 + c.2) / 2)) else some (true, ((c.1 + c.2) / 2 + 1, c.2))
def binX (lo : Nat) (c : Nat × Array Nat) : Option (Bool × (Nat × Array Nat)) := do
  let x ← look c.2 (lo + c.1)
  let l ← loopX (placeX c.2 lo x) c.1 (0, c.1)
  some (true, (c.1 + 1, bubble c.2 (lo + c.1) (lo + c.1 - (lo + l.1))))
theorem bubble_map (p : Array Nat) (k l : Nat) : bubble (p.map it) k l = (bubble p k l).map it := PySem.W.kas_swaps_map it (fun i => k - i) (fun i => k - i - 1) _ p
theorem move_sim {p : Array Nat} {k l : Nat} : Runs (model prog w) A E s (moveDown' k l) (stX κ it pend mg p) () (stX κ it pend mg (bubble p k (k - l))) := fun Q hq => by
  rw [moveDown'_eq]
  refine wpS_modify ?_
  rw [show setArr (stX κ it pend mg p) (bubble (arrOf (stX κ it pend mg p)) k (k - l)) = stX κ it pend mg (bubble p k (k - l)) from congrArg (fun a => SortSt.mk' κ a pend mg none) (bubble_map p _ _)]
  exact hq
theorem bins_sim {lo : Nat} {f : Nat → Option Bool × Unit → SM (ForInStep (Option Bool × Unit))}
    (hf : ∀ k p x l, look p (lo + k) = some x → loopX (placeX p lo x) k (0, k) = some l → Runs (model prog w) A E s (f k (none, ())) (stX κ it pend mg p) (.yield (none, ())) (stX κ it pend mg (bubble p (lo + k) (lo + k - (lo + l.1))))) (n : Nat) :
    ∀ k p d, loopX (binX lo) n (k, p) = some d → Runs (model prog w) A E s (forIn (List.range' k n) (none, ()) f) (stX κ it pend mg p) (none, ()) (stX κ it pend mg d.2) := by
  induction n with
  | zero => intro k p d h; cases h; exact run_pure
  | succ n ih =>
    intro k p d h
    rw [List.range'_succ]
    unfold loopX binX at h
    dsimp only at h
    cases e1 : look p (lo + k) with
    | none => first | exact (no1 (e1) h).elim | exact (no1 h (e1)).elim | (rw [e1] at h; cases h)
    | some x =>
      rw [e1] at h
      cases e2 : loopX (placeX p lo x) k (0, k) with
      | none => simp [e2] at h
      | some l =>
        simp only [Option.bind_eq_bind, Option.bind_some, e2] at h
        exact run_next (hf k p x l e1 e2) (ih _ _ d h)
theorem bin_sim (hC : LtX prog w A E s κ it) {p q : Array Nat} {lo n ok k : Nat} (h : loopX (binX lo) (n - max ok 1) (max ok 1, p) = some (k, q)) : Runs (model prog w) A E s (binarySort' lo n ok) (stX κ it pend mg p) true (stX κ it pend mg q) := by
  refine run_bind (run_range rfl (bins_sim (fun k p x l e1 e2 => run_bind (sim_range (c := (0, k)) (a := 0) (b := k) (fun c : Nat × Nat => ((none, c.1, c.2) : Option Bool × Nat × Nat)) (fun _ => stX κ it pend mg p) (fun i c' b d e => ?_) e2) (by dsimp only; exact run_bind move_sim run_pure)) _ _ _ _ h)) run_pure
  unfold placeX at e
  split at e
  · rename_i hge
    cases e
    exact run_ifp hge run_pure
  · rename_i hge
    obtain ⟨y, e3, e⟩ := Option.bind_eq_some_iff.mp e
    refine run_ifn hge (run_bind (ltAtX hC e1 e3) ?_)
    by_cases hxy : x < y
    · first | exact (no1 (if_pos hxy) e).elim | exact (no1 e (if_pos hxy)).elim | (rw [if_pos hxy] at e; cases e)
      exact run_ifp (decide_eq_true hxy) run_pure
    · first | exact (no1 (if_neg hxy) e).elim | exact (no1 e (if_neg hxy)).elim | (rw [if_neg hxy] at e; cases e)
      exact run_ifn (by simpa using hxy) run_pure

/-! ## galloping -/
def beyX (left : Bool) (key x : Nat) : Bool := if left = true then decide (x < key) else !decide (key < x)
theorem beyX_sim (hC : LtX prog w A E s κ it) {left : Bool} {key x i : Nat} {p : Array Nat} {st : SortSt} (hk : kindOf st = κ) (h : look p i = some x) (h1 : key < 64) :
    Runs (model prog w) A E s (elem' (p.map it) i >>= fun x => if left = true then lt' x (it key) else lt' (it key) x >>= fun d => pure (Option.map (fun x => !x) d)) st (some (beyX left key x)) st := by
  refine run_bind (elemX h) ?_
  cases left with
  | true => exact hC _ _ _ hk (look_get h).2 h1
  | false => exact run_bind (hC _ _ _ hk h1 (look_get h).2) run_pure
def gR (left : Bool) (key : Nat) (p : Array Nat) (base hint mx : Nat) (c : Nat × Nat) : Option (Bool × (Nat × Nat)) :=
  if c.2 ≥ mx then some (false, c) else do
    let x ← look p (base + (hint + c.2))
    if beyX left key x = true then some (true, (c.2, 2 * c.2 + 1)) else some (false, c)
def gL (left : Bool) (key : Nat) (p : Array Nat) (base hint mx : Nat) (c : Nat × Nat) : Option (Bool × (Nat × Nat)) :=
  if c.2 ≥ mx then some (false, c) else do
    let x ← look p (base + (hint - c.2))
    if beyX left key x = true then some (false, c) else some (true, (c.2, 2 * c.2 + 1))
def gB (left : Bool) (key : Nat) (p : Array Nat) (base : Nat) (c : Nat × Nat) : Option (Bool × (Nat × Nat)) :=
  if c.1 ≥ c.2 then some (false, c) else do
    let x ← look p (base + (c.1 + (c.2 - c.1) / 2))
    if beyX left key x = true then some (true, (c.1 + (c.2 - c.1) / 2 + 1, c.2)) else some (true, (c.1, c.1 + (c.2 - c.1) / 2))
def galX (left : Bool) (key : Nat) (p : Array Nat) (base n hint : Nat) : Option Nat := do
  let x ← look p (base + hint)
  if beyX left key x = true then
    let c ← loopX (gR left key p base hint (n - hint)) n (0, 1)
    let d ← loopX (gB left key p base) n (hint + c.1 + 1, hint + min c.2 (n - hint))
    some d.2
  else
    let c ← loopX (gL left key p base hint (hint + 1)) n (0, 1)
    let d ← loopX (gB left key p base) n (hint + 1 - min c.2 (hint + 1), hint - c.1)
    some d.2
abbrev two (c : Nat × Nat) : Option (Option Nat) × Nat × Nat := (none, c.1, c.2)
theorem gal_sim (hC : LtX prog w A E s κ it) {left : Bool} {key n base hint k : Nat} {p : Array Nat} {st : SortSt} (hk : kindOf st = κ) (h1 : key < 64) (h : galX left key p base n hint = some k) :
    Runs (model prog w) A E s (gallop' left (it key) (p.map it) base n hint) st (some k) st := by
  have last : ∀ {c b d}, gB left key p base c = some (b, d) → Runs (model prog w) A E s (if (two c).2.1 ≥ (two c).2.2 then pure (ForInStep.done (none, (two c).2.1, (two c).2.2)) else
      (elem' (p.map it) (base + ((two c).2.1 + ((two c).2.2 - (two c).2.1) / 2)) >>= fun x => if left = true then lt' x (it key) else lt' (it key) x >>= fun d => pure (Option.map (fun x => !x) d)) >>= fun x => match x with
        | some more => if more = true then pure (ForInStep.yield (none, (two c).2.1 + ((two c).2.2 - (two c).2.1) / 2 + 1, (two c).2.2)) else pure (ForInStep.yield (none, (two c).2.1, (two c).2.1 + ((two c).2.2 - (two c).2.1) / 2))
        | _ => pure (ForInStep.done (some none, (two c).2.1, (two c).2.2))) st (cond b (ForInStep.yield (two d)) (ForInStep.done (two d))) st := fun {c b d} e => by
    refine ite_elim e (fun hge e => ?_) fun hge e => opt_elim e fun x e1 e => run_ifn hge (run_bind (beyX_sim hC hk e1 h1) (ite_elim e (fun hb e => ?_) fun hb e => ?_))
    · exact pair_eq (H := fun b d => Runs (model prog w) A E s _ st (cond b (ForInStep.yield (two d)) (ForInStep.done (two d))) st) (Option.some.inj e) (run_ifp hge run_pure)
    · exact pair_eq (H := fun b d => Runs (model prog w) A E s _ st (cond b (ForInStep.yield (two d)) (ForInStep.done (two d))) st) (Option.some.inj e) (run_ifp hb run_pure)
    · exact pair_eq (H := fun b d => Runs (model prog w) A E s _ st (cond b (ForInStep.yield (two d)) (ForInStep.done (two d))) st) (Option.some.inj e) (run_ifn hb run_pure)
  refine opt_elim h fun x e0 h => run_bind (beyX_sim hC hk e0 h1) (ite_elim h (fun hb h => opt_elim h fun c e1 h => opt_elim h fun d e2 h => ?_) fun hb h => opt_elim h fun c e1 h => opt_elim h fun d e2 h => ?_)
  · rw [← Option.some.inj h]
    refine run_ifp hb (run_bind (sim_range (c := (0, 1)) two (fun _ => st) (fun i c b d e => ?_) e1) (run_bind (sim_range (c := (hint + c.1 + 1, hint + min c.2 (n - hint))) two (fun _ => st) (fun i c b d e => last e) e2) run_pure))
    refine ite_elim e (fun hge e => ?_) fun hge e => opt_elim e fun x e3 e => run_ifn hge (run_bind (beyX_sim hC hk e3 h1) (ite_elim e (fun hb e => ?_) fun hb e => ?_))
    · exact pair_eq (H := fun b d => Runs (model prog w) A E s _ st (cond b (ForInStep.yield (two d)) (ForInStep.done (two d))) st) (Option.some.inj e) (run_ifp hge run_pure)
    · exact pair_eq (H := fun b d => Runs (model prog w) A E s _ st (cond b (ForInStep.yield (two d)) (ForInStep.done (two d))) st) (Option.some.inj e) (run_ifn (by rw [hb]; decide) run_pure)
    · exact pair_eq (H := fun b d => Runs (model prog w) A E s _ st (cond b (ForInStep.yield (two d)) (ForInStep.done (two d))) st) (Option.some.inj e) (run_ifp (by rw [Bool.eq_false_iff.mpr hb]; rfl) run_pure)
  · rw [← Option.some.inj h]
    refine run_ifn hb (run_bind (sim_range (c := (0, 1)) two (fun _ => st) (fun i c b d e => ?_) e1) (run_bind (sim_range (c := (hint + 1 - min c.2 (hint + 1), hint - c.1)) two (fun _ => st) (fun i c b d e => last e) e2) run_pure))
    refine ite_elim e (fun hge e => ?_) fun hge e => opt_elim e fun x e3 e => run_ifn hge (run_bind (beyX_sim hC hk e3 h1) (ite_elim e (fun hb e => ?_) fun hb e => ?_))
    · exact pair_eq (H := fun b d => Runs (model prog w) A E s _ st (cond b (ForInStep.yield (two d)) (ForInStep.done (two d))) st) (Option.some.inj e) (run_ifp hge run_pure)
    · exact pair_eq (H := fun b d => Runs (model prog w) A E s _ st (cond b (ForInStep.yield (two d)) (ForInStep.done (two d))) st) (Option.some.inj e) (run_ifp hb run_pure)
    · exact pair_eq (H := fun b d => Runs (model prog w) A E s _ st (cond b (ForInStep.yield (two d)) (ForInStep.done (two d))) st) (Option.some.inj e) (run_ifn hb run_pure)

/-! ## merging, where no galloping sets in -/
abbrev MlSt := Option (Array Nat) × Array Nat × Nat × Nat × Nat × Nat
def mlX (a b : Array Nat) (c : MlSt) : Option (Bool × MlSt) := do
  let y ← look b c.2.2.2.1
  let x ← look a c.2.2.1
  if y < x then
    if (c.2.2.2.1 + 1 == b.size) = false ∧ ¬ (c.2.2.2.2.2 + 1 ≥ 7) ∧ c.1 = none then some (true, (none, c.2.1.push y, c.2.2.1, c.2.2.2.1 + 1, 0, c.2.2.2.2.2 + 1)) else none
  else if (c.2.2.1 + 1 + 1 == a.size) = true ∧ c.1 = none then
    some (false, (some (c.2.1.push x ++ b.extract c.2.2.2.1 b.size ++ a.extract (c.2.2.1 + 1) a.size), c.2.1.push x, c.2.2.1 + 1, c.2.2.2.1, c.2.2.2.2.1 + 1, 0))
  else if ¬ (c.2.2.2.2.1 + 1 ≥ 7) ∧ c.1 = none then some (true, (none, c.2.1.push x, c.2.2.1 + 1, c.2.2.2.1, c.2.2.2.2.1 + 1, 0)) else none
def mergeX (a b : Array Nat) : Option (Array Nat) := do
  let y ← look b 0
  let c ← loopX (mlX a b) (a.size + b.size) (none, #[y], 0, 1, 0, 0)
  if (1 == b.size) = false ∧ (0 + 1 == a.size) = false then c.1 else none
abbrev mlR (it : Nat → Keyed) (c : MlSt) : Option (Array Keyed) × Array Keyed × Nat × Nat × Nat × Nat := (c.1.map (·.map it), c.2.1.map it, c.2.2.1, c.2.2.2.1, c.2.2.2.2.1, c.2.2.2.2.2)
theorem run_rule {st : SortSt} {x : String} : Runs (model prog w) A E s (liftM (rule x) : SM Unit) st () st := fun Q h => wpS_lift (wpAny_rule ⟨rfl, h⟩)
theorem ml_cases {a b out : Array Nat} {c1 : Option (Array Nat)} {ia ib ac bc : Nat} {b' : Bool} {d : MlSt} {G : ForInStep (Option (Array Keyed) × Array Keyed × Nat × Nat × Nat × Nat) → Prop} (e : mlX a b (c1, out, ia, ib, ac, bc) = some (b', d))
    (h1 : ∀ v u, look b ib = some v → look a ia = some u → v < u → (ib + 1 == b.size) = false → ¬ (bc + 1 ≥ 7) → G (.yield (none, (out.map it).push (it v), ia, ib + 1, 0, bc + 1)))
    (h2 : ∀ v u, look b ib = some v → look a ia = some u → ¬ v < u → (ia + 1 + 1 == a.size) = true → G (.done (some ((out.map it).push (it u) ++ (b.map it).extract ib (b.map it).size ++ (a.map it).extract (ia + 1) (a.map it).size), (out.map it).push (it u), ia + 1, ib, ac + 1, 0)))
    (h3 : ∀ v u, look b ib = some v → look a ia = some u → ¬ v < u → ¬ (ia + 1 + 1 == a.size) = true → ¬ (ac + 1 ≥ 7) → G (.yield (none, (out.map it).push (it u), ia + 1, ib, ac + 1, 0))) : G (cond b' (.yield (mlR it d)) (.done (mlR it d))) := by
  refine opt_elim e fun v e1 e => opt_elim e fun u e2 e => ite_elim e (fun hvu e => ?_) fun hvu e => ite_elim e (fun hc e => ?_) fun hn e => ?_
  · obtain ⟨hc, q⟩ := ite_some e
    have := h1 v u e1 e2 hvu hc.1 hc.2.1
    rw [← Array.map_push] at this
    exact pair_eq (H := fun x y => G (cond x (.yield (mlR it y)) (.done (mlR it y)))) q this
  · have := h2 v u e1 e2 hvu hc.1
    have hp : ((out.map it).push (it u) ++ (b.map it).extract ib (b.map it).size ++ (a.map it).extract (ia + 1) (a.map it).size) = (out.push u ++ b.extract ib b.size ++ a.extract (ia + 1) a.size).map it := by simp
    rw [hp, ← Array.map_push] at this
    exact pair_eq (H := fun x y => G (cond x (.yield (mlR it y)) (.done (mlR it y)))) (Option.some.inj e) this
  · obtain ⟨hc, q⟩ := ite_some e
    have := h3 v u e1 e2 hvu (fun q => hn ⟨q, hc.2⟩) hc.1
    rw [← Array.map_push] at this
    exact pair_eq (H := fun x y => G (cond x (.yield (mlR it y)) (.done (mlR it y)))) q this
theorem merge_sim (hC : LtX prog w A E s κ it) {a b m : Array Nat} {st : SortSt} (hk : kindOf st = κ) (hg : gallopOf st = 7) (h : mergeX a b = some m) :
    Runs (model prog w) A E s (mergeLo' (a.map it) (b.map it)) st (m.map it) st := by
  refine opt_elim h fun y h1 h => opt_elim h fun c h2 h => ite_elim h (fun hc h => ?_) fun _ h => nomatch h
  have sa : (a.map it).size = a.size := Array.size_map
  have sb : (b.map it).size = b.size := Array.size_map
  obtain ⟨t, ht⟩ : ∃ t, (a.map it).size + (b.map it).size - 0 = t + 1 := by
    have := (look_get h1).1
    have hb : 0 < b.size := by
      rcases Nat.eq_zero_or_pos b.size with q | q
      · first | exact (no1 (Array.eq_empty_of_size_eq_zero q) this).elim | exact (no1 this (Array.eq_empty_of_size_eq_zero q)).elim | (rw [Array.eq_empty_of_size_eq_zero q] at this; cases this)
      · exact q
    exact ⟨a.size + b.size - 1, by rw [sa, sb]; exact (Nat.sub_add_cancel (Nat.le_trans hb (Nat.le_add_left _ _))).symm⟩
  have h2' : loopX (mlX a b) ((a.map it).size + (b.map it).size - 0) (none, #[y], 0, 1, 0, 0) = some c := by rw [sa, sb]; exact h2
  have e0 : mlR it (none, #[y], 0, 1, 0, 0) = (none, #[it y], 0, 1, 0, 0) := by simp [mlR]
  have e9 : mlR it c = (some (m.map it), (mlR it c).2) := by unfold mlR; rw [h]; rfl
  have inner : ∀ {f : Nat → Option (Array Keyed) × Array Keyed × Nat × Nat × Nat × Nat → SM (ForInStep (Option (Array Keyed) × Array Keyed × Nat × Nat × Nat × Nat))},
      (∀ x c b' d, mlX a b c = some (b', d) → Runs (model prog w) A E s (f x (mlR it c)) st (cond b' (.yield (mlR it d)) (.done (mlR it d))) st) → Runs (model prog w) A E s (forIn [0:(a.map it).size + (b.map it).size] (none, #[it y], 0, 1, 0, 0) f) st (some (m.map it), (mlR it c).2) st := by
    intro f hb
    rw [← e9, ← e0]
    exact sim_range (mlR it) (fun _ => st) hb h2'
  refine run_bind run_rule (run_bind (elemX h1) (run_ifn (by rw [sb, hc.1]; decide) (run_ifn (by rw [sa, hc.2]; decide) (run_bind run_get (run_bind (a := (some (m.map it), c.2.1.map it, c.2.2.1, c.2.2.2.1, gallopOf st)) (run_first ht (run_bind (inner fun i c b' d e => ?_) run_pure)) run_pure)))))
  obtain ⟨c1, out, ia, ib, ac, bc⟩ := c
  refine ml_cases (G := fun r => Runs (model prog w) A E s _ st r st) e (fun v u e1 e2 hvu p1 p2 => run_bind (elemX e1) (run_bind (elemX e2) (run_bind (hC _ _ _ hk (look_get e1).2 (look_get e2).2) ?_))) (fun v u e1 e2 hvu p1 => run_bind (elemX e1) (run_bind (elemX e2) (run_bind (hC _ _ _ hk (look_get e1).2 (look_get e2).2) ?_))) (fun v u e1 e2 hvu p1 p2 => run_bind (elemX e1) (run_bind (elemX e2) (run_bind (hC _ _ _ hk (look_get e1).2 (look_get e2).2) ?_)))
  · exact run_ifp (decide_eq_true hvu) (run_bind (elemX e1) (run_ifn (by rw [sb, p1]; decide) (run_ifn (show ¬ (bc + 1 ≥ gallopOf st) by rw [hg]; exact p2) run_pure)))
  · exact run_ifn (by simpa using hvu) (run_bind (elemX e2) (run_ifp (by rw [sa]; exact p1) run_pure))
  · exact run_ifn (by simpa using hvu) (run_bind (elemX e2) (run_ifn (fun q => p1 (by rw [sa] at q; exact q)) (run_ifn (show ¬ (ac + 1 ≥ gallopOf st) by rw [hg]; exact p2) run_pure)))

def putX (p : Array Nat) (base : Nat) (l : List (Nat × Nat)) : Array Nat := l.foldl (fun a q => a.setIfInBounds (base + q.2) q.1) p
theorem put_map (base : Nat) : ∀ (l : List Nat) (k : Nat) (p : Array Nat), ((l.map it).zipIdx k).foldl (fun a q => a.setIfInBounds (base + q.2) q.1) (p.map it) = (putX p base (l.zipIdx k)).map it
  | [], _, _ => rfl
  | x :: l, k, p => by
    rw [List.map_cons, List.zipIdx_cons, List.zipIdx_cons]
    show ((l.map it).zipIdx (k + 1)).foldl _ ((p.map it).setIfInBounds (base + k) (it x)) = (putX (p.setIfInBounds (base + k) x) base (l.zipIdx (k + 1))).map it
    rw [← put_map base l (k + 1), Array.map_setIfInBounds]
def mergeAtX (p : Array Nat) (sa na sb nb : Nat) : Option (Array Nat) := do
  let key ← look p sb
  let k ← galX false key p sa na 0
  let key2 ← look p (sa + k + (na - k) - 1)
  let n2 ← galX true key2 p sb nb (nb - 1)
  let m ← mergeX (p.extract (sa + k) sb) (p.extract sb (sb + n2))
  if (na - k == 0) = false ∧ (n2 == 0) = false ∧ na - k ≤ n2 then some (putX p (sa + k) m.toList.zipIdx) else none
theorem mergeAt_sim (hC : LtX prog w A E s κ it) {p q : Array Nat} {i sa na sb nb pw pw2 : Nat} (hp1 : pend[i]? = some (sa, na, pw)) (hp2 : pend[i + 1]? = some (sb, nb, pw2)) (h : mergeAtX p sa na sb nb = some q) :
    Runs (model prog w) A E s (mergeAt' i) (stX κ it pend 7 p) true (stX κ it ((pend.setIfInBounds i (sa, na + nb, pw)).eraseIdxIfInBounds (i + 1)) 7 q) := by
  refine opt_elim h fun key h1 h => opt_elim h fun k h2 h => opt_elim h fun key2 h3 h => opt_elim h fun n2 h4 h => opt_elim h fun m h5 h => ?_
  obtain ⟨hc, rfl⟩ := ite_some h
  refine run_bind run_get ?_
  dsimp only
  rw [show (sortPriv% PySem.Builtin.SortState.pending) (stX κ it pend 7 p) = pend from rfl, hp1, hp2]
  have e : (m.map it).toList.zipIdx.foldl (fun a (q : Keyed × Nat) => a.setIfInBounds (sa + k + q.2) q.1) (p.map it) = (putX p (sa + k) m.toList.zipIdx).map it := by
    rw [Array.toList_map]; exact put_map (sa + k) m.toList 0 p
  have e2 := congrArg (fun a => SortSt.mk' κ a ((pend.setIfInBounds i (sa, na + nb, pw)).eraseIdxIfInBounds (i + 1)) 7 none) e
  rw [show stX κ it ((pend.setIfInBounds i (sa, na + nb, pw)).eraseIdxIfInBounds (i + 1)) 7 (putX p (sa + k) m.toList.zipIdx) = _ from e2.symm]
  have hm := merge_sim (prog := prog) (w := w) (A := A) (E := E) (s := s) (st := stX κ it ((pend.setIfInBounds i (sa, na + nb, pw)).eraseIdxIfInBounds (i + 1)) 7 p) hC rfl rfl h5
  rw [Array.map_extract, Array.map_extract] at hm
  exact run_bind run_set (run_bind (elemX h1) (run_bind (gal_sim hC rfl (look_get h1).2 h2) (run_ifn (by rw [hc.1]; decide) (run_bind (elemX h3) (run_bind (gal_sim hC rfl (look_get h3).2 h4) (run_ifn (by rw [hc.2.1]; decide) (run_ifp hc.2.2 (run_bind hm (run_bind run_modify (run_bind run_get run_pure))))))))))

/-! ## 64 items -/
def run64 (p : Array Nat) : Option (Array Nat) := do
  let n1 ← countX p 0 64
  let c1 ← loopX (binX 0) (32 - max n1 1) (max n1 1, p)
  let n2 ← countX c1.2 32 32
  let c2 ← loopX (binX 32) (32 - max n2 1) (max n2 1, c1.2)
  if p.size = 64 ∧ n1 < 32 ∧ n2 < 32 then mergeAtX c2.2 0 32 32 32 else none
theorem sort64 (hC : LtX prog w A E s κ it) {p q : Array Nat} {Q : Unit → SortSt → Prop} (h : run64 p = some q) (hq : ∀ st', arrOf st' = q.map it → failedOf st' = none → Q () st') : wpS (model prog w) A E s sortRuns' Q (stX κ it #[] 7 p) := by
  refine opt_elim h fun n1 h1 h => opt_elim h fun c1 h2 h => opt_elim h fun n2 h3 h => opt_elim h fun c2 h4 h => ite_elim h (fun hc h => ?_) fun _ h => nomatch h
  have hsz : (arrOf (stX κ it #[] 7 p)).size = 64 := by show (p.map it).size = 64; rw [Array.size_map, hc.1]
  have hps : ∀ pw, (((#[(0, 32, pw), (32, 32, 0)] : Array (Nat × Nat × Nat)).setIfInBounds 0 (0, 32 + 32, pw)).eraseIdxIfInBounds (0 + 1)).size ≤ 1 := by intro pw; simp
  have R : Runs (model prog w) A E s sortRuns' (stX κ it #[] 7 p) () (stX κ it (((#[(0, 32, power' 64 (2 * 0 + 32) (2 * 0 + 32 + 32 + 32) 64), (32, 32, 0)] : Array (Nat × Nat × Nat)).setIfInBounds 0 (0, 32 + 32, power' 64 (2 * 0 + 32) (2 * 0 + 32 + 32 + 32) 64)).eraseIdxIfInBounds (0 + 1)) 7 q) := by
    rw [sortRuns'_eq]
    refine run_bind run_get ?_
    rw [hsz]
    refine run_bind (a := (none, 64)) (st₁ := stX κ it #[(0, 32, power' 64 (2 * 0 + 32) (2 * 0 + 32 + 32 + 32) 64), (32, 32, 0)] 7 c2.2) ?_ (run_bind (a := (none, ())) ?_ run_pure)
    · refine run_more (n := 63) (e := (none, 32)) (st₁ := stX κ it #[(0, 32, 0)] 7 c1.2) rfl (run_ifn (by decide) (run_bind (count_sim hC h1) (run_ifp hc.2.1 (run_bind run_rule (run_bind (bin_sim (q := c1.2) (k := c1.1) hC h2) (run_ifn (by decide) (run_bind run_get (run_bind run_modify run_pure)))))))) ?_
      refine run_next (d := (none, 64)) (st₁ := stX κ it #[(0, 32, power' 64 (2 * 0 + 32) (2 * 0 + 32 + 32 + 32) 64), (32, 32, 0)] 7 c2.2) (run_ifn (by decide) (run_bind (count_sim hC h3) (run_ifp hc.2.2 (run_bind run_rule (run_bind (bin_sim (q := c2.2) (k := c2.1) hC h4) (run_ifn (by decide) (run_bind run_get (run_bind (a := (none, ())) (run_first (n := 63) rfl (run_bind run_get run_pure)) (run_bind run_modify (run_bind run_modify run_pure)))))))))) (run_stop (run_ifp (by decide) run_pure))
    · exact run_more (n := 63) (e := (none, ())) rfl (run_bind run_get (run_ifn (show ¬ (2 ≤ 1) by decide) (run_bind (mergeAt_sim (i := 0) hC (sa := 0) (na := 32) (sb := 32) (nb := 32) rfl rfl h) (run_ifn (by decide) run_pure)))) (run_stop (run_bind run_get (run_ifp (hps _) run_pure)))
  exact R Q (hq _ rfl rfl)
end
end Mine
end

/-! # M16 -/
section
set_option autoImplicit false
set_option maxRecDepth 100000
set_option linter.unusedVariables false
namespace Mine
open PySem PySem.Calls PyProof.Rows PySem.W

abbrev TP (S : List Int) : D := .tuple [.int S.length, I S]

theorem rd_tup {X : Addr → Prop} {h : Heap} {v : Value} {S : List Int} (r : Rd X h v (TP S)) : ∃ a o n a2 o2 ws n2 t, v = .ref a ∧ h.get? a = some o ∧ o.cls = .type "tuple" ∧ o.data = .seq #[.int S.length t, .ref a2] n ∧
    h.get? a2 = some o2 ∧ o2.cls = .type "list" ∧ o2.data = .seq ws n2 ∧ IntsAre ws.toList S := by
  obtain ⟨a, o, ⟨l⟩, n, rfl, _, ho, hc, hd, hr⟩ := rd_tuple r
  obtain ⟨v1, us, rfl, r1, hr⟩ := rdAll_cons hr
  obtain ⟨v2, us, rfl, r2, hr⟩ := rdAll_cons hr
  obtain rfl := rdAll_nil hr
  obtain ⟨t, rfl⟩ := rd_int r1
  obtain ⟨a2, o2, ws, n2, rfl, _, ho2, hc2, hd2, hr2⟩ := rd_list r2
  exact ⟨a, o, n, a2, o2, ws, n2, t, rfl, ho, hc, hd, ho2, hc2, hd2, rd_ints hr2⟩
theorem lexB_self : ∀ S : List Int, lexB S S = false
  | [] => rfl
  | x :: S => by simp [lexB, lexB_self S]
def Small (S : List Int) : Prop := (∀ x ∈ S, 0 ≤ x ∧ x < 8) ∧ S.length ≤ 8

section
variable {prog : Program} {w : World} {A : Around} {E : Value → Shared → Prop} {s : Shared}
theorem tup_lt {h₀ : Heap} (hk : ∀ b o, h₀.get? b = some o → s.heap.get? b = some o) (hu : A.units + 5 < cLine) {X : Addr → Prop} {x y : Value} {S T : List Int} (rS : Rd X h₀ x (TP S)) (sS : Small S) (rT : Rd X h₀ y (TP T)) (sT : Small T) {C : Bool → Shared → Prop} (h : C (decide (rkL S < rkL T)) s) :
    wpAny (model prog w) A (keyLt' (tuples' true) x y) C E s := by
  rw [← rk_lt sS.1 sT.1 sS.2 sT.2] at h
  obtain ⟨a, o, n, a2, o2, ws, n2, t, rfl, h1, h2, h3, h4, h5, h6, h7⟩ := rd_tup rS
  obtain ⟨b, o', m, b2, p2, us, m2, u, rfl, g1, g2, g3, g4, g5, g6, g7⟩ := rd_tup rT
  refine kat_lt (hk _ _ h1) h3 (hk _ _ g1) g3 ?_
  refine kat_cons (wpAny_eqBool_int (kat_go (fun e => kat_yes (kat_cons ?_)) fun e => kat_no (oneLt_int ?_)))
  · have e' : (S.length : Int) = T.length := by simpa using e
    rw [if_pos e'] at h
    obtain ⟨as, q1⟩ := (Rd.list (X := fun _ => False) (fun h => h) (hk _ _ h4) h5 h6 (ints_rd h7) : Rd _ s.heap (.ref a2) (I S)).reads (enc_I.raw S)
    obtain ⟨bs, q2⟩ := (Rd.list (X := fun _ => False) (fun h => h) (hk _ _ g4) g5 g6 (ints_rd g7) : Rd _ s.heap (.ref b2) (I T)).reads (enc_I.raw T)
    refine SeqAt.eqBoolOverData _ _ _ _ _ _ _ _ _ _ _ _ q1 q2 (enc_I.lay S) (enc_I.lay T) ?_ ?_
    · have := enc_I.depth S; have := enc_I.depth T; show A.units + min (toPy (I S)).depth (toPy (I T)).depth < cLine; lia
    · rw [enc_I.eq]
      refine kat_go (fun z => kat_yes (kat_nil ?_)) fun z => kat_no (kat_one _ _ (lt_lists (hk _ _ h4) h5 h6 (hk _ _ g4) g5 g6 h7 g7 (by lia) h))
      have z' := of_decide_eq_true z
      subst z'
      rw [lexB_self] at h
      exact h
  · rw [if_neg (by simpa using e)] at h; exact h

theorem tups_are {h : Heap} {X : Addr → Prop} : ∀ {vs : List Value} {L : List (List Int)}, RdAll X h vs (L.map TP) → ∃ fs, KatTups h vs fs ∧ fs.length = L.length ∧ ∀ v ∈ fs, ∃ i t, v = Value.int i t
  | [], [], _ => ⟨[], KatTups.nil, rfl, fun _ h => (nomatch h)⟩
  | _, S :: L, .cons a r => by
    obtain ⟨fs, h1, h2, h3⟩ := tups_are r
    obtain ⟨a', o, n, a2, o2, ws, n2, t, rfl, e1, e2, e3, _⟩ := rd_tup a
    refine ⟨.int S.length t :: fs, KatTups.cons e1 e2 e3 rfl h1, by simp [h2], fun v hv => ?_⟩
    rcases List.mem_cons.mp hv with q | q
    · exact ⟨_, _, q⟩
    · exact h3 v q

/-- list.sort() by a run that is known -/
theorem list_sortX {kd : SortKind} {out : Array Keyed} {a : Addr} {vs : List Value} {n : Nat} {P : Fin → Shared → Prop} (ho : s.heap.get? a = some (seqObj "list" vs.toArray n)) (hlen : vs.length ≤ 16777216) (hsz : out.size = vs.length) (h1 : vs.length < 2 → out = pairsOf vs)
    (hkk : ∀ h', (∀ b o, b ≠ a → s.heap.get? b = some o → h'.get? b = some o) → 2 ≤ vs.length → ∀ Q : SortKind → Shared → Prop, Q kd { s with heap := h' } → wpAny (model prog w) A (keyKind' vs.toArray) Q E { s with heap := h' })
    (hrun : ∀ h', (∀ b o, b ≠ a → s.heap.get? b = some o → h'.get? b = some o) → 2 ≤ vs.length → ∀ Q : Unit → SortSt → Prop, (∀ st', arrOf st' = out → failedOf st' = none → Q () st') → wpS (model prog w) A E { s with heap := h' } sortRuns' Q (SortSt.mk' kd (pairsOf vs) #[] 7 none))
    (h : P (.done (.ret .none)) { s with heap := sortedHeap s.heap a vs (out.map (·.2)) }) :
    wpAny (model prog w) A (Builtin.«list.sort» ⟨[.ref a], []⟩) P E s := by
  rw [list_sort_plain]
  have ha : a < s.heap.objs.size := Heap.lt_size ho
  refine wpAny_bind (listItems_at ho rfl ?_)
  refine wpAny_bind (listUpdate_at ho rfl ?_ (hsz := by rw [List.size_toArray, sizeLine_eq]; exact hlen))
  obtain ⟨e1, ho1⟩ : ∃ e1, (s.heap.update a (Obj.mapSeq fun _ => #[])).get? a = some (seqObj "list" #[] e1) := ⟨_, get?_update_seq ho (fun _ => #[])⟩
  refine wpAny_bind (seqEpoch_at ho1 rfl ?_)
  refine wpAny_bind (wpAny_newTuple ?_ (by rw [sizeLine_eq]; exact hlen))
  refine wpAny_bind (wpAny_newList ?_)
  refine wpAny_holding ?_
  have ho6 : (((s.heap.update a (Obj.mapSeq fun _ => #[])).push (seqObj "tuple" vs.toArray 0)).push (seqObj "list" #[] 0)).get? a = some (seqObj "list" #[] e1) :=
    Heap.get?_push_of_some _ (Heap.get?_push_of_some _ ho1)
  have hkeep : ∀ b o, b ≠ a → s.heap.get? b = some o → (((s.heap.update a (Obj.mapSeq fun _ => #[])).push (seqObj "tuple" vs.toArray 0)).push (seqObj "list" #[] 0)).get? b = some o := fun b o hb e => by
    refine Heap.get?_push_of_some _ (Heap.get?_push_of_some _ ?_)
    rw [Heap.get?_update_ne _ _ _ _ hb]; exact e
  show wpAny (model prog w) A _ P E { s with heap := ((s.heap.update a (Obj.mapSeq fun _ => #[])).push (seqObj "tuple" vs.toArray 0)).push (seqObj "list" #[] 0) }
  dsimp only
  have hsz' : vs.toArray.size = vs.length := by simp
  have hm : (out.map (·.2)).size ≤ sizeLine + 1 := by rw [Array.size_map, hsz, sizeLine_eq]; exact Nat.le_succ_of_le hlen
  by_cases h2 : vs.toArray.size < 2
  · rw [if_pos h2, if_pos h2]
    refine wpAny_bind (wpAny_pure ?_)
    rw [StateT.run_pure]
    refine wpAny_bind (wpAny_pure ?_)
    dsimp only
    refine wpAny_bind (seqEpoch_at ho6 rfl ?_)
    rw [h1 (by lia)] at h hm
    refine wpAny_bind (listUpdate_at ho6 rfl ?_ (hsz2 := hm))
    simp only [bne_self_eq_false, Bool.false_eq_true, if_false]
    exact wpAny_pure h
  · rw [if_neg h2, if_neg h2]
    refine wpAny_bind (hkk _ hkeep (by lia) _ ?_)
    refine wpAny_bind (wpAny_mono (hrun _ hkeep (by lia) (fun _ st' => arrOf st' = out ∧ failedOf st' = none) fun _ a b => ⟨a, b⟩) ?_ fun _ _ e => e)
    rintro ⟨⟨⟩, st'⟩ s' ⟨rfl, hp, hf⟩
    dsimp only
    dsimp only at hp hf
    refine wpAny_bind (seqEpoch_at ho6 rfl ?_)
    rw [← hp] at h hm
    refine wpAny_bind (listUpdate_at ho6 rfl ?_ (hsz2 := hm))
    rw [hf]
    simp only [bne_self_eq_false, Bool.false_eq_true, if_false]
    exact wpAny_pure h

/-! ## the runs -/
def runX {α : Type} (n : Nat) (r : Nat → Int) : KasT α → Option α
  | .ret a => some a
  | .ask i j k => if i < n ∧ j < n then runX n r (k (decide (r i < r j))) else none
theorem runX_wp {α : Type} {n : Nat} {r : Nat → Int} {cmp : Nat → Nat → (Bool → Shared → Prop) → Shared → Prop} (hc : ∀ i j C, i < n → j < n → C (decide (r i < r j)) s → cmp i j C s) : ∀ (t : KasT α) {a : α} {Q : α → Shared → Prop}, runX n r t = some a → Q a s → t.kasWp cmp Q s := by
  intro t
  induction t with
  | ret b => intro a Q h hq; cases h; exact hq
  | ask i j k ih =>
    intro a Q h hq
    unfold runX at h
    split at h
    · rename_i hij
      exact hc i j _ hij.1 hij.2 (ih _ h hq)
    · cases h
def rkAt (n i : Nat) : Int := rkL ((subsL n).getD i [])
theorem run_small {n : Nat} (h1 : 1 ≤ n) (h5 : n ≤ 5) : runX (2 ^ n) (rkAt n) (kas_sort (2 ^ n)) = some (posL n).toArray := by
  have h : ∀ n ∈ List.range' 1 5, runX (2 ^ n) (rkAt n) (kas_sort (2 ^ n)) = some (posL n).toArray := by decide +kernel
  exact h n (by simp; lia)
def ranks6 : Array Nat := #[0, 1, 2, 7, 3, 8, 12, 22, 4, 9, 13, 23, 16, 26, 32, 42, 5, 10, 14, 24, 17, 27, 33, 43, 19, 29, 35, 45, 38, 48, 52, 57, 6, 11, 15, 25, 18, 28, 34, 44, 20, 30, 36, 46, 39, 49, 53, 58, 21, 31, 37, 47, 40, 50, 54, 59, 41, 51, 55, 60, 56, 61, 62, 63]
theorem run_big : run64 ranks6 = some (Array.range 64) := by decide +kernel
theorem pos_ranks : ranks6.map (fun x => (posL 6).getD x 0) = (List.range 64).toArray := by decide +kernel
theorem rank_lt : ((posL 6).map (rkAt 6)).Pairwise (· < ·) := by decide +kernel
theorem pos_lt : ∀ n ∈ List.range 7, (posL n).length = 2 ^ n ∧ ∀ i ∈ posL n, i < 2 ^ n := by decide +kernel
theorem rank_cmp {x y : Nat} (hx : x < 64) (hy : y < 64) : decide (rkAt 6 ((posL 6).getD x 0) < rkAt 6 ((posL 6).getD y 0)) = decide (x < y) := by
  have hl : (posL 6).length = 64 := (pos_lt 6 (by decide)).1
  have P := List.pairwise_iff_getElem.mp rank_lt
  have at_ : ∀ z (hz : z < 64), rkAt 6 ((posL 6).getD z 0) = ((posL 6).map (rkAt 6))[z]'(by rw [List.length_map, hl]; exact hz) := fun z hz => by
    rw [List.getElem_map, List.getD_eq_getElem?_getD, List.getElem?_eq_getElem (by rw [hl]; exact hz)]; rfl
  rcases Nat.lt_trichotomy x y with h | h | h
  · rw [decide_eq_true h, decide_eq_true]
    rw [at_ x hx, at_ y hy]
    exact P x y _ _ h
  · subst h; rw [decide_eq_false (Int.lt_irrefl _), decide_eq_false (Nat.lt_irrefl _)]
  · rw [decide_eq_false (Nat.lt_asymm h), decide_eq_false]
    rw [at_ x hx, at_ y hy]
    exact Int.not_lt.mpr (Int.le_of_lt (P y x _ _ h))

theorem runs_ok {n : Nat} (h1 : 1 ≤ n) (h6 : n ≤ 6) {vs : List Value} (hl : vs.length = 2 ^ n) (hc : ∀ i j C, i < 2 ^ n → j < 2 ^ n → C (decide (rkAt n i < rkAt n j)) s → kas_cmp prog w A (tuples' true) (pairsOf vs) i j C s) (Q : Unit → SortSt → Prop)
    (hq : ∀ st', arrOf st' = (posL n).toArray.map (kas_item (pairsOf vs)) → failedOf st' = none → Q () st') : wpS (model prog w) A E s sortRuns' Q (SortSt.mk' (tuples' true) (pairsOf vs) #[] 7 none) := by
  have hps : (pairsOf vs).size = 2 ^ n := by rw [pairsOf_size, hl]
  have e0 : (List.toArray (List.range (2 ^ n))).map (kas_item (pairsOf vs)) = pairsOf vs := by rw [← hps]; exact kas_range _
  by_cases h5 : n ≤ 5
  · have h64 : 2 ^ n < 64 := Nat.lt_of_le_of_lt (Nat.pow_le_pow_right (by decide) h5) (by decide)
    have h2 : 2 ≤ 2 ^ n := Nat.le_trans (by decide) (Nat.pow_le_pow_right (n := 2) (by decide) h1)
    have k := kas_runs (prog := prog) (w := w) (A := A) (E := E) (κ := tuples' true) (it := pairsOf vs) (n := 2 ^ n) (s := s) (Q := fun u st' s' => s' = s ∧ Q u st') (G := fun p' s' => s' = s ∧ p' = (posL n).toArray) h2 h64
      (fun p' st' s' _ a1 a2 a3 => ⟨a3.1, hq st' (by rw [a1, a3.2]) a2⟩) (runX_wp hc _ (run_small h1 h5) ⟨rfl, rfl⟩)
    unfold kas_st at k
    rw [e0] at k
    exact k
  · have hn : n = 6 := by lia
    subst hn
    have hC : LtX prog w A E s (tuples' true) (fun x => kas_item (pairsOf vs) ((posL 6).getD x 0)) := by
      intro st x y hk hx hy Q' hq'
      have hp := (pos_lt 6 (by decide))
      have hin : ∀ z, z < 64 → (posL 6).getD z 0 < 2 ^ 6 := fun z hz => by
        rw [List.getD_eq_getElem?_getD, List.getElem?_eq_getElem (by rw [hp.1]; exact hz)]
        exact hp.2 _ (List.getElem_mem _)
      rw [lt'_eq]
      refine wpS_bind (wpS_get ?_)
      rw [hk]
      have hcc := hc _ _ (fun c s' => s' = s ∧ wpS (model prog w) A E s (pure (some c)) Q' st) (hin x hx) (hin y hy) ⟨rfl, by rw [rank_cmp hx hy]; exact wpS_pure hq'⟩
      exact wpS_bind (wpS_lift (wpAny_attempt (wpAny_mono hcc (fun c s' q => q) fun _ _ z => z.elim)))
    have k := sort64 (p := ranks6) hC run_big (Q := Q) fun st' a1 a2 => hq st' (by
      rw [a1]
      have : (posL 6).toArray = (Array.range 64).map fun x => (posL 6).getD x 0 := by decide +kernel
      rw [this, Array.map_map]; rfl) a2
    unfold stX at k
    have e1 : ranks6.map (fun x => kas_item (pairsOf vs) ((posL 6).getD x 0)) = pairsOf vs := by
      rw [show (fun x => kas_item (pairsOf vs) ((posL 6).getD x 0)) = kas_item (pairsOf vs) ∘ fun x => (posL 6).getD x 0 from rfl, ← Array.map_map, pos_ranks]
      exact e0
    rw [e1] at k
    exact k
end

section
variable {c : Cx} {k : Nat} {env : Env} {ρ : Vars} {μ : Mem} {pos : Pos}
/-- sorted([(len(one), one) ..]) of all sets -/
theorem evF_sortedSubs {x : Str} {px : Pos} {e : Expr} {n : Nat} (h6 : n ≤ 6) (hg : c.mg x = none) (hb : bootBuiltins x = some (.builtin "sorted")) (he : Ev c k env ρ μ e (.list ((subsL n).map TP)))
    (hs : notStar e = true := by rfl) (hn : x ≠ "__name__" := by decide) (hx : env.kindOf x = some .globalImplicit := by rfl) (hd : (x == ("__debug__" : Str)) = false := by decide) : EvF c k env ρ μ (.Call (.Name x px) [e] [] pos) ((sortedL n).map TP) := by
  intro X A s E hA R
  refine Call_ (name_builtin R hx hg hb hn ?_ hd)
  refine callWith_one hs (fun s' Q' hq => wpAny_pure hq) (gives_bind (he X A s hA R) fun v s₁ k₁ r₁ => ?_)
  cases r₁ with
  | list hX ho hc hdt hr =>
    rename_i a o arr m
    obtain ⟨vs⟩ := arr
    have hl : s₁.heap.IsList a vs.toArray := ⟨o, ho, hc, m, hdt⟩
    have hr : RdAll X s₁.heap vs ((subsL n).map TP) := hr
    have hvl : vs.length = 2 ^ n := by have := hr.length; rw [List.length_map, subs_len] at this; exact this
    have hv64 : vs.length ≤ 64 := by rw [hvl]; exact Nat.le_trans (Nat.pow_le_pow_right (by decide) h6) (by decide)
    refine Calls.call_function_entry kind_sorted plain_sorted entry_sorted (args_sorted1 _) ?_
    unfold Builtin.«sorted»
    refine wpAny_bind (m := checkCount "sorted" 1 1 _) (wpAny_pure ?_)
    refine wpAny_bind (collect_list hl ?_ (by rw [sizeLine_eq]; lia))
    refine wpAny_bind (wpAny_newList ?_ (by rw [sizeLine_eq]; lia))
    have hsz : ((s₁.heap.push (seqObj "list" #[] 0)).update s₁.heap.objs.size (Obj.mapSeq (· ++ vs.toArray))).objs.size = s₁.heap.objs.size + 1 := by
      rw [Heap.size_update, size_push']
    have hoL : (((s₁.heap.push (seqObj "list" #[] 0)).update s₁.heap.objs.size (Obj.mapSeq (· ++ vs.toArray))).push (seqObj "list" vs.toArray 0)).get? (s₁.heap.objs.size + 1) = some (seqObj "list" vs.toArray 0) := by
      rw [← hsz]; exact Heap.get?_push_size _ rfl
    have keep : ∀ b o, s₁.heap.get? b = some o → b ≠ s₁.heap.objs.size + 1 ∧ (((s₁.heap.push (seqObj "list" #[] 0)).update s₁.heap.objs.size (Obj.mapSeq (· ++ vs.toArray))).push (seqObj "list" vs.toArray 0)).get? b = some o := fun b o q => by
      have hlt : b < s₁.heap.objs.size := Heap.lt_size q
      refine ⟨Nat.ne_of_lt (Nat.lt_succ_of_lt hlt), ?_⟩
      rw [Heap.get?_push_ne _ _ _ (by rw [hsz]; exact Nat.ne_of_lt (Nat.lt_succ_of_lt hlt)), Heap.get?_update_ne _ _ _ _ (Nat.ne_of_lt hlt), Heap.get?_push_ne _ _ _ (Nat.ne_of_lt hlt)]
      exact q
    show wpAny _ _ _ _ _ { s₁ with heap := ((s₁.heap.push (seqObj "list" #[] 0)).update s₁.heap.objs.size (Obj.mapSeq (· ++ vs.toArray))).push (seqObj "list" vs.toArray 0) }
    rw [hsz]
    have hfr : s.heap.get? (s₁.heap.objs.size + 1) = none := by
      refine none_of fun o e' => ?_
      exact absurd rfl (keep _ _ (k₁.sub _ _ e')).1
    generalize ((s₁.heap.push (seqObj "list" #[] 0)).update s₁.heap.objs.size (Obj.mapSeq (· ++ vs.toArray))).push (seqObj "list" vs.toArray 0) = H₁ at hoL keep ⊢
    generalize s₁.heap.objs.size + 1 = b at hoL keep hfr ⊢
    have rdv : ∀ i, i < 2 ^ n → Rd X s₁.heap (vs.getD i .none) (TP ((subsL n).getD i [])) := fun i hi => by
      have h2 : i < (subsL n).length := by rw [subs_len]; exact hi
      obtain ⟨v, e1, e2⟩ := hr.get (i := i) (d := TP ((subsL n).getD i [])) (by simp [h2])
      rw [List.getD_eq_getElem?_getD, e1]; exact e2
    have hsm : ∀ i, i < 2 ^ n → Small ((subsL n).getD i []) := fun i hi => by
      have h2 : i < (subsL n).length := by rw [subs_len]; exact hi
      refine subs_small (by lia) (k := n) ?_
      rw [List.getD_eq_getElem?_getD, List.getElem?_eq_getElem h2]; exact List.getElem_mem h2
    have hp := pos_lt n (List.mem_range.mpr (by lia))
    have hu := hA.units
    refine wpAny_bind (wpAny_holding (wpAny_call_entry slot_list_sort ⟨_, hoL, rfl⟩ entry_list_sort (list_sortX (kd := tuples' true) (out := (posL n).toArray.map (kas_item (pairsOf vs))) hoL (by lia) (by rw [Array.size_map, List.size_toArray, hp.1, hvl]) (fun h2 => ?_)
      (fun h' hk' h2 Q' hq => ?_) (fun h' hk' h2 Q' hq' => runs_ok ?_ h6 hvl (fun i j C hi hj hC => ?_) Q' hq') ⟨_, rfl, ?_⟩) (args_list_sort _)))
    · have h0 : n = 0 := by
        rcases Nat.eq_zero_or_pos n with q | q
        · exact q
        · have := Nat.pow_le_pow_right (n := 2) (by decide) q; lia
      subst h0
      have e3 := kas_range (pairsOf vs)
      rw [pairsOf_size, hvl] at e3
      exact e3
    · obtain ⟨fs, h1, h2', h3⟩ := tups_are (X := X) (h := h') (hr.mono fun b' o' n' e' => ⟨n', hk' _ _ (keep b' o' e').1 (keep b' o' e').2⟩)
      exact kat_kind (T := .type "int") h1 (by rw [h2', subs_len]; exact Nat.two_pow_pos n) (fun v hv => by obtain ⟨i, t, rfl⟩ := h3 v hv; exact Looks.of_pure rfl) rfl hq
    · rcases Nat.eq_zero_or_pos n with q | q
      · subst q; rw [hvl] at h2; exact absurd h2 (by decide)
      · exact q
    · unfold kas_cmp
      rw [kas_item_eq, kas_item_eq]
      exact tup_lt (h₀ := s₁.heap) (fun b' o' e' => hk' _ _ (keep b' o' e').1 (keep b' o' e').2) (show A.units + 1 + 1 + 5 < cLine by lia) (rdv i hi) (hsm i hi) (rdv j hj) (hsm j hj) hC
    · have hk₂ : ∀ b' o', s₁.heap.get? b' = some o' → (sortedHeap H₁ b vs (((posL n).toArray.map (kas_item (pairsOf vs))).map (·.2))).get? b' = some o' := fun b' o' e' => sortedHeap_keep (keep b' o' e').1 (keep b' o' e').2
      obtain ⟨n', hsa⟩ := sortedHeap_at (out := ((posL n).toArray.map (kas_item (pairsOf vs))).map (·.2)) hoL
      refine wpAny_pure ⟨_, rfl, ?_⟩
      generalize sortedHeap H₁ b vs (((posL n).toArray.map (kas_item (pairsOf vs))).map (·.2)) = H₂ at hsa hk₂ ⊢
      refine ⟨⟨fun b' o' e' => hk₂ _ _ (k₁.sub _ _ e'), ⟨k₁.same.os, k₁.same.gens⟩⟩, b, _, rfl, hfr, ⟨_, hsa, rfl, rfl, n', rfl⟩, ?_⟩
      rw [Array.toList_map, Array.toList_map, List.map_map]
      unfold sortedL
      rw [List.map_map]
      have go : ∀ l : List Nat, (∀ i ∈ l, i < 2 ^ n) → RdAll (fun b' => X b' ∨ b' = b) H₂ (l.map ((fun p : Keyed => p.2) ∘ kas_item (pairsOf vs))) (l.map (TP ∘ fun i => (subsL n).getD i [])) := fun l => by
        induction l with
        | nil => exact fun _ => .nil
        | cons i l ih =>
          intro hl'
          refine .cons ?_ (ih fun j hj => hl' j (.tail _ hj))
          show Rd _ _ (kas_item (pairsOf vs) i).2 (TP ((subsL n).getD i []))
          rw [kas_item_eq]
          exact (rdv i (hl' i (.head _))).mono fun b' o' n' e' => ⟨fun z => z.elim n' fun z => (keep b' o' e').1 z, hk₂ b' o' e'⟩
      exact go _ hp.2
end
end Mine
end

/-! # L9a -/
section
open PySem PySem.Calls PyProof.Rows
set_option autoImplicit false
set_option linter.unusedVariables false
namespace Mine
def st (i : Nat) : Stmt := (PySem.Challenge.pw_uf060024_09.main.body)[i]?.getD (.Pass ⟨0,0,0,0⟩)

abbrev PR (p : MRule) : D := .tuple [I p.1, I p.2]
abbrev RS (l : List MRule) : D := .list (l.map PR)
abbrev RR (l : List (List Int)) : D := .list (l.map I)
theorem enc_PR : Enc PR 2 := enc_pair enc_I enc_I
theorem enc_RS : Enc RS 3 := enc_list enc_PR
theorem inj_PR : ∀ a b : MRule, PR a = PR b → a = b := fun a b h => by
  have h := D.tuple.inj h
  simp only [List.cons.injEq, and_true] at h
  exact Prod.ext (inj_I _ _ h.1) (inj_I _ _ h.2)

/-! ## plain -/
def mixL (ns : List Int) (first k : Int) : Int :=
  if k < max 1 ((ns.length : Int) - first) then ns.getD (first + k.fmod (max 1 ((ns.length : Int) - first))).toNat 0 + (ns.getD (first + k.fmod (max 1 ((ns.length : Int) - first))).toNat 0).fmod 251 * 381840
  else (((ns.getD (first + k.fmod (max 1 ((ns.length : Int) - first))).toNat 0).fmod 1000003 + 7919 * k.fdiv (max 1 ((ns.length : Int) - first))) * 48271).fmod 1000003
def onL (x m way many : Int) : Bool :=
  if way = 0 then (x.fdiv (2 ^ m.toNat)).fmod 2 == 1
  else if way = 1 then ((x.fdiv (2 ^ m.toNat)).fmod 2 == 1) && (((x.fdiv 256).fdiv (2 ^ m.toNat)).fmod 2 == 1)
  else if way = 2 then ((x.fdiv (2 ^ m.toNat)).fmod 2 == 1) || (((x.fdiv 256).fdiv (2 ^ m.toNat)).fmod 2 == 1)
  else m != x.fmod (many + 1)
def manyL (ns : List Int) : Int := if ((ns.getD 0 0).fdiv 6).fmod 16 = 1 then 6 else (ns.getD 0 0).fmod 6
def rowL (ns : List Int) (k : Int) : List Int := (upto (manyL ns)).filter fun m => onL (mixL ns 6 k) m ((ns.getD 2 0).fmod 4) (manyL ns)
def rowsL (ns : List Int) : List (List Int) := (upto ((ns.getD 1 0).fmod 7)).map (rowL ns)
theorem many_lt (ns : List Int) : 0 ≤ manyL ns ∧ manyL ns ≤ 6 := by
  unfold manyL
  have h1 := fmod_lt (a := ns.getD 0 0) (b := 6) (by decide)
  have h2 := fmod_nn (a := ns.getD 0 0) (b := 6) (by decide)
  split <;> lia
theorem rows_sub {ns : List Int} {r : List Int} (h : r ∈ rowsL ns) : r.Sublist (upto (manyL ns)) := by
  obtain ⟨k, _, rfl⟩ := List.mem_map.mp h; exact List.filter_sublist
theorem rows_len (ns : List Int) : (rowsL ns).length ≤ 6 := by
  unfold rowsL
  have h1 := fmod_lt (a := ns.getD 1 0) (b := 7) (by decide)
  rw [List.length_map, upto_len]; lia
theorem worth {m : Int} (h0 : 0 ≤ m) (h1 : m < 8) : ([.int 1, .int 2, .int 4, .int 8, .int 16, .int 32, .int 64, .int 128] : List D)[m.toNat]? = some (.int (2 ^ m.toNat)) := by
  have : m.toNat < 8 := by lia
  generalize m.toNat = i at this
  match i, this with
  | 0, _ | 1, _ | 2, _ | 3, _ | 4, _ | 5, _ | 6, _ | 7, _ => rfl
theorem pow_small {m : Int} (h1 : m < 8) : ((2 : Int) ^ m.toNat).natAbs < 1073741824 := by
  have : m.toNat ≤ 7 := by lia
  rw [Int.natAbs_pow]
  exact Nat.lt_of_le_of_lt (Nat.pow_le_pow_right (by decide) this) (by decide)
theorem pow_ne {m : Int} : (2 : Int) ^ m.toNat ≠ 0 := Int.pow_ne_zero (by decide)

section
variable {c : Cx} {f : Addr}

theorem cell_at_ok (hf : FnAt c f (st 17)) (hlen : c.mg "len" = none) {ns : List Int} {i : Int} (h0 : 0 ≤ i) (hl : ns.length ≤ 63) : Fn c 1 f [I ns, .int i] (.int (ns.getD i.toNat 0)) := by
  refine fn_of hf (binds2 fun _ _ _ _ _ _ _ _ _ => rfl) (fun qn cdv L => ?_)
  refine ex_seq (ex_if (tr_cmp (ev_name rfl rfl) (ev_len hlen boot_len (ev_name rfl rfl) (by simp; lia)) (fun X A s v u hA h1 h2 => cmp_lt h1 h2)) (fun hb => ?_) (fun hb => ?_))
  · have hb' : i < (ns.length : Int) := by simpa using hb
    refine ex_seq (ex_return (ev_item (ev_name rfl rfl) (ev_name rfl rfl) h0 (d := .int (ns.getD i.toNat 0)) ?_ (by simp; lia)) rfl)
    have : i.toNat < ns.length := by lia
    simp [this]
  · have hb' : ¬ i < (ns.length : Int) := by simpa using hb
    refine ex_nil ?_
    refine ex_seq (ex_return ev_int ?_)
    have : ns.length ≤ i.toNat := by lia
    simp [retOf, this]

theorem mix_ok {fc : Addr} (hf : FnAt c f (st 18)) (hc : FnAt c fc (st 17)) (g1 : c.mg "_law_cell_at" = some (.ref fc)) (g2 : c.mg "len" = none) (g3 : c.mg "max" = none) {ns : List Int} (hl : ns.length ≤ 63) {first k : Int} (h0 : 0 ≤ first) (hk : 0 ≤ k) :
    Fn c 2 f [I ns, .int first, .int k] (.int (mixL ns first k)) := by
  refine fn_of hf (binds3 fun _ _ _ _ _ _ _ _ _ _ => rfl) (fun qn cdv L => ?_)
  refine ex_seq (ex_assign (ev_max g3 boot_max ev_int (ev_sub (ev_len g2 boot_len (ev_name rfl rfl) (by simp; lia)) (ev_name rfl rfl))) ?_)
  rw [List.length_map]
  have hM : 0 < max 1 ((ns.length : Int) - first) := by lia
  have hM2 : (max 1 ((ns.length : Int) - first)).natAbs < 1073741824 := by lia
  have hm := fmod_nn (a := k) hM
  unfold mixL
  generalize max 1 ((ns.length : Int) - first) = M at *
  refine ex_seq (ex_assign (ev_call g1 hc (.cons (ev_name rfl rfl) (.cons (ev_add (ev_name rfl rfl) (ev_mod (ev_name rfl rfl) (ev_name rfl rfl) (by lia))) .nil rfl) rfl) (cell_at_ok hc g2 (by lia) hl)) ?_)
  refine ex_seq (ex_if (tr_cmp (ev_name rfl rfl) (ev_name rfl rfl) (fun X A s v u hA h1 h2 => cmp_lt h1 h2)) (fun hb => ?_) (fun hb => ex_nil ?_))
  · rw [if_pos (of_decide_eq_true hb)]
    exact ex_seq (ex_return (ev_add (ev_name rfl rfl) (ev_mul (ev_mod (ev_name rfl rfl) ev_int (by decide)) ev_int (mul_right (by decide)))) rfl)
  · rw [if_neg (of_decide_eq_false hb)]
    exact ex_seq (ex_return (ev_mod (ev_mul (ev_add (ev_mod (ev_name rfl rfl) ev_int (by decide)) (ev_mul ev_int (ev_fdiv (ev_name rfl rfl) (ev_name rfl rfl) (by lia) hM2) (mul_left (by decide)))) ev_int (mul_right (by decide))) ev_int (by decide)) rfl)

theorem worth_ev {k : Nat} {env : Env} {ρ : Vars} {μ : Mem} {l : List Expr} {e : Expr} {m : Int} {p pos : Pos} (hl : EvAll c k env ρ μ l [.int 1, .int 2, .int 4, .int 8, .int 16, .int 32, .int 64, .int 128]) (he : Ev c k env ρ μ e (.int m)) (h0 : 0 ≤ m) (h1 : m < 8)
    (hs : ∀ o v, subscripted e false o v = operate [o, v] (getItem o v) := by intro _ _; with_unfolding_all rfl) : Ev c k env ρ μ (.Subscript (.List l p) e pos) (.int (2 ^ m.toNat)) :=
  ev_item (ev_list hl (by simp)) he h0 (worth h0 h1) (by simp) hs

theorem ex_worth {k : Nat} {env : Env} {ρ : Vars} {μ : Mem} {Q : Out → Vars → Mem → Prop} {l : List Expr} {x y : Str} {m : Int} {px py p p' pos : Pos} {rest : List Stmt} (hl : EvAll c k env ρ μ l [.int 1, .int 2, .int 4, .int 8, .int 16, .int 32, .int 64, .int 128]) (he : Ev c k env ρ μ (.Name y py) (.int m)) (h0 : 0 ≤ m) (h1 : m < 8)
    (hx : stor env x = true) (h : Ex c k env ((x, .int (2 ^ m.toNat)) :: ρ) μ rest Q) : Ex c k env ρ μ (.Assign [.Name x px] (.Subscript (.List l p) (.Name y py) p') pos :: rest) Q :=
  ex_seq (ex_assign (worth_ev hl he h0 h1) h hx rfl)

theorem on_ok (hf : FnAt c f (st 19)) {x m way many : Int} (h0 : 0 ≤ m) (h1 : m < 8) (hm : 0 ≤ many) : Fn c 1 f [.int x, .int m, .int way, .int many] (.bool (onL x m way many)) := by
  refine fn_of hf (binds4 fun _ _ _ _ _ _ _ _ _ _ _ => rfl) (fun qn cdv L => ?_)
  obtain ⟨LC, p1, p2, p3, p4, p5, hl, hb⟩ : ∃ (LC : List Expr) (p1 p2 p3 p4 p5 : Pos), (∀ env ρ, EvAll c 0 env ρ [] LC [.int 1, .int 2, .int 4, .int 8, .int 16, .int 32, .int 64, .int 128]) ∧
      bodyOf (st 19) = .Assign [.Name "_law_worth" p1] (.Subscript (.List LC p2) (.Name "_law_mark" p3) p4) p5 :: (bodyOf (st 19)).tail := ⟨_, _, _, _, _, _, fun env ρ => (.cons ev_int (.cons ev_int (.cons ev_int (.cons ev_int (.cons ev_int (.cons ev_int (.cons ev_int (.cons ev_int .nil rfl) rfl) rfl) rfl) rfl) rfl) rfl) rfl), rfl⟩
  rw [hb]
  refine ex_worth (hl _ _) (ev_name rfl rfl) h0 h1 rfl ?_
  refine ex_seq (ex_assign (ev_cmp (ev_mod (ev_fdiv (ev_name rfl rfl) (ev_name rfl rfl) pow_ne (pow_small h1)) ev_int (by decide)) ev_int fun X A s v u hA h1 h2 => cmp_eq h1 h2) ?_)
  refine ex_seq (ex_assign (ev_cmp (ev_mod (ev_fdiv (ev_fdiv (ev_name rfl rfl) ev_int (by decide) (by decide)) (ev_name rfl rfl) pow_ne (pow_small h1)) ev_int (by decide)) ev_int fun X A s v u hA h1 h2 => cmp_eq h1 h2) ?_)
  unfold onL
  refine ex_seq (ex_if (tr_cmp (ev_name rfl rfl) ev_int fun X A s v u hA h1 h2 => cmp_eq h1 h2) (fun hb => ?_) (fun hb => ex_nil ?_))
  · rw [if_pos (by simpa using hb)]
    exact ex_seq (ex_return (ev_name rfl rfl) rfl)
  rw [if_neg (by simpa using hb)]
  refine ex_seq (ex_if (tr_cmp (ev_name rfl rfl) ev_int fun X A s v u hA h1 h2 => cmp_eq h1 h2) (fun hb => ?_) (fun hb => ex_nil ?_))
  · rw [if_pos (by simpa using hb)]
    exact ex_seq (ex_return (ev_and (ev_name rfl rfl) (fun q => by rw [q, Bool.true_and]; exact ev_bool1 (ev_name rfl rfl)) (fun q => by rw [q, Bool.false_and])) rfl)
  rw [if_neg (by simpa using hb)]
  refine ex_seq (ex_if (tr_cmp (ev_name rfl rfl) ev_int fun X A s v u hA h1 h2 => cmp_eq h1 h2) (fun hb => ?_) (fun hb => ex_nil ?_))
  · rw [if_pos (by simpa using hb)]
    exact ex_seq (ex_return (ev_or (ev_name rfl rfl) (fun q => by rw [q, Bool.false_or]; exact ev_bool1 (ev_name rfl rfl)) (fun q => by rw [q, Bool.true_or])) rfl)
  rw [if_neg (by simpa using hb)]
  exact ex_seq (ex_return (ev_cmp (ev_name rfl rfl) (ev_mod (ev_name rfl rfl) (ev_add (ev_name rfl rfl) ev_int) (by lia)) fun X A s v u hA h1 h2 => cmp_ne h1 h2) rfl)

theorem table_by_ok {fc fm fo : Addr} (hf : FnAt c f (st 20)) (hc : FnAt c fc (st 17)) (hm : FnAt c fm (st 18)) (ho : FnAt c fo (st 19)) (g1 : c.mg "_law_cell_at" = some (.ref fc)) (g2 : c.mg "len" = none) (g3 : c.mg "max" = none) (g4 : c.mg "_law_mix" = some (.ref fm)) (g5 : c.mg "_law_on" = some (.ref fo)) (g6 : c.mg "range" = none)
    {ns : List Int} (hl : ns.length ≤ 63) : Fn c 3 f [I ns] (.tuple [.int (manyL ns), RR (rowsL ns)]) := by
  have CELL : ∀ i : Int, 0 ≤ i → Fn c 2 fc [I ns, .int i] (.int (ns.getD i.toNat 0)) := fun i hi => (cell_at_ok hc g2 hi hl).up (by decide)
  have b7 := fmod_lt (a := ns.getD 1 0) (b := 7) (by decide)
  have b7' := fmod_nn (a := ns.getD 1 0) (b := 7) (by decide)
  obtain ⟨m0, m6⟩ := many_lt ns
  refine fn_of hf (binds1 fun _ _ _ _ _ _ _ _ => rfl) (fun qn cdv L => ?_)
  refine ex_seq (ex_assign (ev_mod (ev_call g1 hc (.cons (ev_name rfl rfl) (.cons ev_int .nil rfl) rfl) (CELL 0 (by decide))) ev_int (by decide)) ?_)
  refine ex_seq (ex_if_join [("_law_many", .int (manyL ns)), ("_law_script", I ns)] [] (tr_cmp (ev_mod (ev_fdiv (ev_call g1 hc (.cons (ev_name rfl rfl) (.cons ev_int .nil rfl) rfl) (CELL 0 (by decide))) ev_int (by decide) (by decide)) ev_int (by decide)) ev_int fun X A s v u hA h1 h2 => cmp_eq h1 h2) (fun hb => ?_) (fun hb => ?_) fun ρ' hρ => ?_)
  · have e : manyL ns = 6 := by unfold manyL; rw [if_pos (by simpa using hb)]
    rw [e]
    exact ex_seq (ex_assign ev_int (ex_nil ⟨has_of (hasAll_cons rfl (hasAll_cons rfl hasAll_nil)), rfl⟩))
  · have e : manyL ns = (ns.getD 0 0).fmod 6 := by unfold manyL; rw [if_neg (by simpa using hb)]
    rw [e]
    exact ex_nil ⟨has_of (hasAll_cons rfl (hasAll_cons rfl hasAll_nil)), rfl⟩
  refine ex_has ?_ hρ
  refine ex_seq (ex_assignF evF_nil fun a _ => ?_)
  refine ex_seq (ex_for (src_range (n := (ns.getD 1 0).fmod 7) g6 boot_range (ev_mod (ev_call g1 hc (.cons (ev_name rfl rfl) (.cons ev_int .nil rfl) rfl) (CELL 1 (by decide))) ev_int (by decide)) (by lia) (by lia)) ?_)
  refine turns_st (f := D.int) (σ := List (List Int)) (fun t => [("_law_rows", .raw (.ref a)), ("_law_many", .int (manyL ns)), ("_law_script", I ns)]) (fun t => [(a, t.map I)])
    (fun l t => (∀ k ∈ l, 0 ≤ k) ∧ t.length + l.length ≤ 6 ∧ rowsL ns = t ++ l.map (rowL ns)) ?_ ?_ (upto ((ns.getD 1 0).fmod 7)) [] _
    ⟨fun k hk => (mem_upto.mp hk).1, by rw [upto_len]; show 0 + _ ≤ 6; lia, rfl⟩ (has_of (hasAll_cons rfl (hasAll_cons rfl (hasAll_cons rfl hasAll_nil))))
  · rintro k rest t ⟨hk, hlen, he⟩
    have hk0 := hk k (.head _)
    simp only [List.length_cons] at hlen
    refine ex_seq (ex_assign (ev_call g4 hm (.cons (ev_name rfl rfl) (.cons ev_int (.cons (ev_name rfl rfl) .nil rfl) rfl) rfl) (mix_ok hm hc g1 g2 g3 hl (by decide) hk0)) ?_)
    refine ex_seq (ex_append (x := "_law_rows") (a := a) (ds := t.map I) (d := I (rowL ns k)) rfl (.head _) ?_ (by rw [List.length_map]; lia) ?_)
    · have er : I (rowL ns k) = .list ((((upto (manyL ns)).filter fun m => onL (mixL ns 6 k) m ((ns.getD 2 0).fmod 4) (manyL ns)).map id).map D.int) := by rw [List.map_id]; rfl
      rw [er]
      refine ev_compM (g := D.int) (h := D.int) inj_int (src_range g6 boot_range (ev_name rfl rfl) (by lia) (by lia)) (fun C cl m hm' => tests_one (tr_plain (ev_call g5 ho (.cons (ev_name rfl rfl) (.cons (ev_name rfl rfl) (.cons (ev_mod (ev_call g1 hc (.cons (ev_name rfl rfl) (.cons ev_int .nil rfl) rfl) (CELL 2 (by decide))) ev_int (by decide)) (.cons (ev_name rfl rfl) .nil rfl) rfl) rfl) rfl) ((on_ok ho ?_ ?_ m0).up (by decide))))) (fun C cl m hm' _ => ev_name rfl rfl) (by rw [upto_len]; lia)
      · exact (mem_upto.mp hm').1
      · have := (mem_upto.mp hm').2; lia
    · refine ex_nil ⟨t ++ [rowL ns k], ⟨fun j hj => hk j (.tail _ hj), by simp; lia, by rw [he]; simp⟩, has_of (hasAll_cons rfl (hasAll_cons rfl (hasAll_cons rfl hasAll_nil))), by simp [setM]⟩
  · rintro t ρ' ⟨_, hlen, he⟩ hρ
    have he' : rowsL ns = t := by simpa using he
    refine ex_has ?_ hρ
    refine ex_freeze (x := "_law_rows") (a := a) (ds := t.map I) rfl (.head _) ?_
    rw [he']
    exact ex_seq (ex_return (ev_tuple (.cons (ev_name rfl rfl) (.cons (ev_name rfl rfl) .nil rfl) rfl) (by show 2 ≤ 16777216; decide)) rfl)
end
end Mine
end

/-! # L9b -/
section
open PySem PySem.Calls PyProof.Rows
set_option autoImplicit false
set_option linter.unusedVariables false
namespace Mine

theorem I_filter {l : List Int} {p : Int → Bool} : I (l.filter p) = .list (((l.filter p).map id).map D.int) := by rw [List.map_id]
theorem lackL_eq (xs ys : List Int) : lackL xs ys = xs.filter fun x => !decide (x ∈ ys) := rfl
theorem rowAt {R : List (List Int)} {t : Int} (h0 : 0 ≤ t) (h1 : t < R.length) : (R.map I)[t.toNat]? = some (I (R.getD t.toNat [])) := by
  have : t.toNat < R.length := by lia
  simp [this]

section
variable {c : Cx} {f : Addr}

theorem bit_tr {k : Nat} {env : Env} {ρ : Vars} {μ : Mem} {e1 e2 e3 e4 : Expr} {l : List Expr} {x m : Int} {p p1 p2 p3 p4 : Pos} (h1 : Ev c k env ρ μ e1 (.int x)) (hl : EvAll c k env ρ μ l [.int 1, .int 2, .int 4, .int 8, .int 16, .int 32, .int 64, .int 128]) (h2 : Ev c k env ρ μ e2 (.int m)) (h3 : Ev c k env ρ μ e3 (.int 2)) (h4 : Ev c k env ρ μ e4 (.int 1)) (m0 : 0 ≤ m) (m8 : m < 8)
    (hs : ∀ o v, subscripted e2 false o v = operate [o, v] (getItem o v)) (hm : behindInMarks .Eq e4 = false) :
    Tr c k env ρ μ (.Compare (.BinOp (.BinOp e1 .FloorDiv (.Subscript (.List l p) e2 p1) p2) .Mod e3 p3) [.Eq] [e4] p4) ((x.fdiv (2 ^ m.toNat)).fmod 2 == 1) :=
  tr_cmp (ev_mod (ev_fdiv h1 (worth_ev hl h2 m0 m8 hs) pow_ne (pow_small m8)) h3 (by decide)) h4 (fun X A s v u hA h1 h2 => cmp_eq h1 h2) hm

theorem set_by_ok (hf : FnAt c f (st 21)) (g6 : c.mg "range" = none) {x many : Int} (m0 : 0 ≤ many) (m8 : many ≤ 6) : Fn c 1 f [.int x, .int many] (I (setBy many x)) := by
  refine fn_of hf (binds2 fun _ _ _ _ _ _ _ _ _ => rfl) (fun qn cdv L => ?_)
  unfold setBy
  rw [I_filter]
  refine ex_seq (ex_return (ev_compM (g := D.int) (h := D.int) inj_int (src_range g6 boot_range (ev_name rfl rfl) (by lia) (by lia)) (fun C cl m hm' => tests_one ?_) (fun C cl m hm' _ => ev_name rfl rfl) (by rw [upto_len]; lia)) rfl)
  have hm := mem_upto.mp hm'
  exact bit_tr (ev_name rfl rfl) (.cons ev_int (.cons ev_int (.cons ev_int (.cons ev_int (.cons ev_int (.cons ev_int (.cons ev_int (.cons ev_int .nil rfl) rfl) rfl) rfl) rfl) rfl) rfl) rfl) (ev_name rfl rfl) ev_int ev_int hm.1 (by lia) (by intro _ _; with_unfolding_all rfl) (by with_unfolding_all rfl)

theorem closure_ok (hf : FnAt c f (st 22)) (g2 : c.mg "len" = none) (g6 : c.mg "range" = none) {many : Int} (m0 : 0 ≤ many) (m8 : many ≤ 6) (R : List (List Int)) (hR : R.length ≤ 6) (S : List Int) (hS : S.length ≤ 100) :
    Fn c 1 f [.int many, RR R, I S] (I (cloL many R S)) := by
  refine fn_of hf (binds3 fun _ _ _ _ _ _ _ _ _ _ => rfl) (fun qn cdv L => ?_)
  have e1 : I (thingsL R S) = .list ((((upto R.length).filter fun t => decide (lackL S (R.getD t.toNat []) = [])).map id).map D.int) := by
    rw [List.map_id]
    congr 2
    unfold thingsL
    refine List.filter_congr fun t ht => ?_
    rw [Bool.eq_iff_iff, hasB_iff, decide_eq_true_eq, lack_nil]
  have hlT : (thingsL R S).length ≤ 6 := Nat.le_trans (List.length_filter_le _ _) (by rw [upto_len]; lia)
  refine ex_seq (ex_assign (ev_compM (g := D.int) (h := D.int) (p := fun t => decide (lackL S (R.getD t.toNat []) = [])) (f := id) inj_int (src_range (n := (R.length : Int)) g6 boot_range (by rw [← List.length_map (f := I) (as := R)]; exact ev_len g2 boot_len (ev_name rfl rfl) (by rw [List.length_map]; lia)) (by lia) (by lia)) (fun C cl t ht => tests_one ?_) (fun C cl t ht _ => ev_name rfl rfl) (by rw [upto_len]; lia)) ?_)
  · have ht' := mem_upto.mp ht
    refine tr_cmp (a := I (lackL S (R.getD t.toNat []))) ?_ (ev_list .nil (by simp)) fun X A s v u hA h1 h2 => cmp_Eq enc_I (by decide) (a := lackL S (R.getD t.toNat [])) (b := []) hA h1 h2
    rw [lackL_eq, I_filter]
    exact ev_compM (g := D.int) (h := D.int) inj_int (src_list (ev_name rfl rfl)) (fun C cl m hm => tests_one (tr_cmp (ev_name rfl rfl) (ev_item (ev_name rfl rfl) (ev_name rfl rfl) ht'.1 (rowAt ht'.1 ht'.2) (by rw [List.length_map]; lia)) fun X A s v u hA h1 h2 => cmp_NotIn enc_int (by decide) (a := m) (l := R.getD t.toNat []) hA h1 h2)) (fun C cl m hm _ => ev_name rfl rfl) (by lia)
  rw [← e1]
  have e2 : I (cloL many R S) = .list ((((upto many).filter fun m => decide ((thingsL R S).filter (fun t => !decide (m ∈ R.getD t.toNat [])) = [])).map id).map D.int) := by
    rw [List.map_id]
    congr 2
    unfold cloL marksL
    refine List.filter_congr fun m hm => ?_
    rw [Bool.eq_iff_iff, decide_eq_true_eq, List.filter_eq_nil_iff, List.all_eq_true]
    simp
  rw [e2]
  refine ex_seq (ex_return (ev_compM (g := D.int) (h := D.int) inj_int (src_range g6 boot_range (ev_name rfl rfl) (by lia) (by lia)) (fun C cl m hm => tests_one ?_) (fun C cl m hm _ => ev_name rfl rfl) (by rw [upto_len]; lia)) rfl)
  refine tr_cmp (a := I ((thingsL R S).filter fun t => !decide (m ∈ R.getD t.toNat []))) ?_ (ev_list .nil (by simp)) fun X A s v u hA h1 h2 => cmp_Eq enc_I (by decide) (a := (thingsL R S).filter fun t => !decide (m ∈ R.getD t.toNat [])) (b := []) hA h1 h2
  rw [I_filter]
  refine ev_compM (g := D.int) (h := D.int) inj_int (src_list (ev_name rfl rfl)) (fun C cl t ht => tests_one ?_) (fun C cl t ht _ => ev_name rfl rfl) (by lia)
  have ht' := mem_upto.mp (mem_things.mp ht).1
  exact tr_cmp (ev_name rfl rfl) (ev_item (ev_name rfl rfl) (ev_name rfl rfl) ht'.1 (rowAt ht'.1 ht'.2) (by rw [List.length_map]; lia)) fun X A s v u hA h1 h2 => cmp_NotIn enc_int (by decide) (a := m) (l := R.getD t.toNat []) hA h1 h2

theorem meets_ok (hf : FnAt c f (st 23)) (r : MRule) (S : List Int) (h1 : r.1.length ≤ 100) (h2 : r.2.length ≤ 100) : Fn c 1 f [PR r, I S] (.bool (meetsB r S)) := by
  refine fn_of hf (binds2 fun _ _ _ _ _ _ _ _ _ => rfl) (fun qn cdv L => ?_)
  refine ex_seq (ex_if (b := !decide (lackL r.1 S = [])) ?_ (fun hb => ?_) (fun hb => ex_nil ?_))
  · refine tr_cmp (a := I (lackL r.1 S)) ?_ (ev_list .nil (by simp)) fun X A s v u hA h1 h2 => cmp_Ne enc_I (by decide) (a := lackL r.1 S) (b := []) hA h1 h2
    rw [lackL_eq, I_filter]
    exact ev_compM (g := D.int) (h := D.int) inj_int (src_list (ev_itemT (ev_name rfl rfl) ev_int (by decide) (by decide) rfl)) (fun C cl m hm => tests_one (tr_cmp (ev_name rfl rfl) (ev_name rfl rfl) fun X A s v u hA h1 h2 => cmp_NotIn enc_int (by decide) (a := m) (l := S) hA h1 h2)) (fun C cl m hm _ => ev_name rfl rfl) (by lia)
  · refine ex_seq (ex_return ev_bool ?_)
    have : ¬ hasB S r.1 = true := fun q => by rw [lack_nil.mpr (hasB_iff.mp q)] at hb; simp at hb
    simp [retOf, meetsB, this]
  · have h3 : hasB S r.1 = true := hasB_iff.mpr (lack_nil.mp (by simpa using hb))
    have e : meetsB r S = decide (lackL r.2 S = []) := by
      unfold meetsB; rw [h3, Bool.not_true, Bool.false_or, Bool.eq_iff_iff, hasB_iff, decide_eq_true_eq, lack_nil]
    rw [e]
    refine ex_seq (ex_return (ev_cmp (a := I (lackL r.2 S)) ?_ (ev_list .nil (by simp)) fun X A s v u hA h1 h2 => cmp_Eq enc_I (by decide) (a := lackL r.2 S) (b := []) hA h1 h2) rfl)
    rw [lackL_eq, I_filter]
    exact ev_compM (g := D.int) (h := D.int) inj_int (src_list (ev_itemT (ev_name rfl rfl) ev_int (by decide) (by decide) rfl)) (fun C cl m hm => tests_one (tr_cmp (ev_name rfl rfl) (ev_name rfl rfl) fun X A s v u hA h1 h2 => cmp_NotIn enc_int (by decide) (a := m) (l := S) hA h1 h2)) (fun C cl m hm _ => ev_name rfl rfl) (by lia)
end
end Mine
end

/-! # L9c -/
section
open PySem PySem.Calls PyProof.Rows
set_option autoImplicit false
set_option linter.unusedVariables false
namespace Mine

def aheadL (x many : Int) : List Int := if (x.fdiv 256).fmod 3 = 1 then (setBy many x).take 2 else setBy many x
def drawnL (ns : List Int) (k many : Int) (R : List (List Int)) (way : Int) : MRule :=
  if way = 0 then (aheadL (mixL ns 14 k) many, setBy many ((mixL ns 14 k).fdiv 768)) else (aheadL (mixL ns 14 k) many, cloL many R (aheadL (mixL ns 14 k) many))
def cutL (told : List MRule) (i : Int) : List MRule := told.take i.toNat ++ told.drop (i + 1).toNat
def fewerL (ns : List Int) (told : List MRule) (many : Int) (R : List (List Int)) : List MRule :=
  if (ns.getD 3 0).fmod 3 < 2 then (upto (((ns.getD 3 0).fdiv 3).fmod told.length)).map fun k => drawnL ns k many R ((ns.getD 3 0).fmod 3)
  else if (((ns.getD 3 0).fdiv 3).fdiv told.length).fmod 2 = 1 ∧ cutL told (((ns.getD 3 0).fdiv 3).fmod told.length) ≠ [] then
    (cutL told (((ns.getD 3 0).fdiv 3).fmod told.length)).set ((ns.getD 4 0).fmod (cutL told (((ns.getD 3 0).fdiv 3).fmod told.length)).length).toNat (drawnL ns 0 many R ((ns.getD 5 0).fmod 2))
  else cutL told (((ns.getD 3 0).fdiv 3).fmod told.length)

def ShortR (r : MRule) : Prop := r.1.length ≤ 100 ∧ r.2.length ≤ 100
theorem filter_short {n : Int} (h : n ≤ 6) (p : Int → Bool) : ((upto n).filter p).length ≤ 6 := Nat.le_trans (List.length_filter_le _ _) (by rw [upto_len]; lia)
theorem ahead_short {x many : Int} (h : many ≤ 6) : (aheadL x many).length ≤ 6 := by
  unfold aheadL
  split
  · exact Nat.le_trans (List.length_take_le _ _) (by lia)
  · exact filter_short h _
theorem drawn_short {ns : List Int} {k many way : Int} {R : List (List Int)} (h : many ≤ 6) : ShortR (drawnL ns k many R way) := by
  unfold drawnL
  have h1 := ahead_short (x := mixL ns 14 k) h
  split
  · exact ⟨Nat.le_trans h1 (by decide), Nat.le_trans (filter_short h _) (by decide)⟩
  · exact ⟨Nat.le_trans h1 (by decide), Nat.le_trans (filter_short h _) (by decide)⟩
theorem cut_len {told : List MRule} {i : Int} (h0 : 0 ≤ i) (h1 : i < told.length) : (cutL told i).length + 1 = told.length := by
  unfold cutL
  rw [List.length_append, List.length_take, List.length_drop]; lia
theorem cut_mem {told : List MRule} {i : Int} {r : MRule} (h : r ∈ cutL told i) : r ∈ told := by
  rcases List.mem_append.mp h with q | q
  · exact List.mem_of_mem_take q
  · exact List.mem_of_mem_drop q
theorem fewer_len {ns : List Int} {told : List MRule} {many : Int} {R : List (List Int)} (hne : told ≠ []) : (fewerL ns told many R).length < told.length := by
  have hp : 0 < (told.length : Int) := by have := List.length_pos_iff.mpr hne; lia
  have b1 := fmod_lt (a := (ns.getD 3 0).fdiv 3) hp
  have b2 := fmod_nn (a := (ns.getD 3 0).fdiv 3) hp
  have hc := cut_len b2 b1
  unfold fewerL
  split
  · rw [List.length_map, upto_len]; lia
  · split
    · rw [List.length_set]; lia
    · lia
theorem fewer_short {ns : List Int} {told : List MRule} {many : Int} {R : List (List Int)} (hm : many ≤ 6) (ht : ∀ r ∈ told, ShortR r) : ∀ r ∈ fewerL ns told many R, ShortR r := by
  intro r hr
  unfold fewerL at hr
  split at hr
  · obtain ⟨k, _, rfl⟩ := List.mem_map.mp hr; exact drawn_short hm
  · split at hr
    · rcases List.mem_or_eq_of_mem_set hr with q | q
      · exact ht r (cut_mem q)
      · subst q; exact drawn_short hm
    · exact ht r (cut_mem hr)

theorem ev_lenM {α : Type} {c : Cx} {k : Nat} {env : Env} {ρ : Vars} {μ : Mem} {g : α → D} {l : List α} {x : Str} {px pos : Pos} {e : Expr} (hg : c.mg x = none) (hb : bootBuiltins x = some (.builtin "len")) (he : Ev c k env ρ μ e (.list (l.map g))) (hlen : l.length ≤ 16777216) (hs : notStar e = true := by rfl) (hn : x ≠ "__name__" := by decide)
    (hx : env.kindOf x = some .globalImplicit := by rfl) (hd : (x == ("__debug__" : Str)) = false := by decide) : Ev c k env ρ μ (.Call (.Name x px) [e] [] pos) (.int l.length) := by
  have := ev_len (pos := pos) (px := px) hg hb he (by rwa [List.length_map]) hs hn hx hd
  rwa [List.length_map] at this

section
variable {c : Cx} {f : Addr}
theorem drawn_ok {fc fm fs fl : Addr} (hf : FnAt c f (st 24)) (hc : FnAt c fc (st 17)) (hm : FnAt c fm (st 18)) (hs : FnAt c fs (st 21)) (hcl : FnAt c fl (st 22)) (g1 : c.mg "_law_cell_at" = some (.ref fc)) (g2 : c.mg "len" = none) (g3 : c.mg "max" = none) (g4 : c.mg "_law_mix" = some (.ref fm)) (g5 : c.mg "_law_set_by" = some (.ref fs)) (g6 : c.mg "range" = none) (g7 : c.mg "_law_closure" = some (.ref fl))
    {ns : List Int} (hl : ns.length ≤ 63) {k many way : Int} (hk : 0 ≤ k) (m0 : 0 ≤ many) (m6 : many ≤ 6) (R : List (List Int)) (hR : R.length ≤ 6) : Fn c 3 f [I ns, .int k, .int many, RR R, .int way] (PR (drawnL ns k many R way)) := by
  refine fn_of hf (binds5 fun _ _ _ _ _ _ _ _ _ _ _ _ => rfl) (fun qn cdv L => ?_)
  have SET : ∀ x, Fn c 2 fs [.int x, .int many] (I (setBy many x)) := fun x => (set_by_ok hs g6 m0 m6).up (by decide)
  have hsl : ∀ x, (setBy many x).length ≤ 6 := fun x => filter_short m6 _
  refine ex_seq (ex_assign (ev_call g4 hm (.cons (ev_name rfl rfl) (.cons ev_int (.cons (ev_name rfl rfl) .nil rfl) rfl) rfl) (mix_ok hm hc g1 g2 g3 hl (by decide) hk)) ?_)
  refine ex_seq (ex_assign (ev_call g5 hs (.cons (ev_name rfl rfl) (.cons (ev_name rfl rfl) .nil rfl) rfl) (SET _)) ?_)
  unfold drawnL
  generalize mixL ns 14 k = x
  have ha := ahead_short (x := x) m6
  refine ex_seq (ex_if_join [("_law_ahead", I (aheadL x many)), ("_law_number", .int x), ("_law_way", .int way), ("_law_rows", RR R), ("_law_many", .int many)] [] (tr_cmp (ev_mod (ev_fdiv (ev_name rfl rfl) ev_int (by decide) (by decide)) ev_int (by decide)) ev_int fun X A s v u hA h1 h2 => cmp_eq h1 h2) (fun hb => ?_) (fun hb => ?_) fun ρ' hρ => ?_)
  · have e : I (aheadL x many) = .list (((setBy many x).map D.int).take (2 : Int).toNat) := by unfold aheadL; rw [if_pos (by simpa using hb)]; show D.list (((setBy many x).take 2).map D.int) = _; rw [List.map_take]; rfl
    rw [e]
    exact ex_seq (ex_assign (ev_sliceTo (ev_name rfl rfl) ev_int (by decide) (by rw [List.length_map]; have := hsl x; lia)) (ex_nil ⟨has_of (hasAll_cons rfl (hasAll_cons rfl (hasAll_cons rfl (hasAll_cons rfl (hasAll_cons rfl hasAll_nil))))), rfl⟩))
  · have e : aheadL x many = setBy many x := by unfold aheadL; rw [if_neg (by simpa using hb)]
    rw [e]
    exact ex_nil ⟨has_of (hasAll_cons rfl (hasAll_cons rfl (hasAll_cons rfl (hasAll_cons rfl (hasAll_cons rfl hasAll_nil))))), rfl⟩
  refine ex_has ?_ hρ
  refine ex_seq (ex_if (tr_cmp (ev_name rfl rfl) ev_int fun X A s v u hA h1 h2 => cmp_eq h1 h2) (fun hb => ?_) (fun hb => ex_nil ?_))
  · rw [if_pos (by simpa using hb)]
    exact ex_seq (ex_return (ev_tuple (.cons (ev_name rfl rfl) (.cons (ev_call g5 hs (.cons (ev_fdiv (ev_name rfl rfl) ev_int (by decide) (by decide)) (.cons (ev_name rfl rfl) .nil rfl) rfl) (SET _)) .nil rfl) rfl) (by show 2 ≤ 16777216; decide)) rfl)
  · rw [if_neg (by simpa using hb)]
    exact ex_seq (ex_return (ev_tuple (.cons (ev_name rfl rfl) (.cons (ev_call g7 hcl (.cons (ev_name rfl rfl) (.cons (ev_name rfl rfl) (.cons (ev_name rfl rfl) .nil rfl) rfl) rfl) ((closure_ok hcl g2 g6 m0 m6 R hR _ (by lia)).up (by decide))) .nil rfl) rfl) (by show 2 ≤ 16777216; decide)) rfl)

theorem fewer_ok {fc fd : Addr} (hf : FnAt c f (st 25)) (hc : FnAt c fc (st 17)) (hd : FnAt c fd (st 24)) (g1 : c.mg "_law_cell_at" = some (.ref fc)) (g2 : c.mg "len" = none) (g6 : c.mg "range" = none) (g8 : c.mg "_law_drawn" = some (.ref fd))
    {ns : List Int} (hl : ns.length ≤ 63) {many : Int} (m0 : 0 ≤ many) (m6 : many ≤ 6) (R : List (List Int)) (hR : R.length ≤ 6) (DRAWN : ∀ k way, 0 ≤ k → Fn c 3 fd [I ns, .int k, .int many, RR R, .int way] (PR (drawnL ns k many R way)))
    {told : List MRule} (hne : told ≠ []) (ht : told.length ≤ 100) : Fn c 4 f [I ns, RS told, .int many, RR R] (RS (fewerL ns told many R)) := by
  have CELL : ∀ i : Int, 0 ≤ i → Fn c 3 fc [I ns, .int i] (.int (ns.getD i.toNat 0)) := fun i hi => (cell_at_ok hc g2 hi hl).up (by decide)
  have hp : 0 < (told.length : Int) := by have := List.length_pos_iff.mpr hne; lia
  have b1 := fmod_lt (a := (ns.getD 3 0).fdiv 3) hp
  have b2 := fmod_nn (a := (ns.getD 3 0).fdiv 3) hp
  have hcut := cut_len b2 b1
  refine fn_of hf (binds4 fun _ _ _ _ _ _ _ _ _ _ _ => rfl) (fun qn cdv L => ?_)
  refine ex_seq (ex_assign (ev_mod (ev_call g1 hc (.cons (ev_name rfl rfl) (.cons ev_int .nil rfl) rfl) (CELL 3 (by decide))) ev_int (by decide)) ?_)
  refine ex_seq (ex_assign (ev_fdiv (ev_call g1 hc (.cons (ev_name rfl rfl) (.cons ev_int .nil rfl) rfl) (CELL 3 (by decide))) ev_int (by decide) (by decide)) ?_)
  have hlen3 : ((told.length : Int)).natAbs < 1073741824 := by lia
  unfold fewerL
  show Ex c 3 _ (("_law_draw", .int ((ns.getD 3 0).fdiv 3)) :: ("_law_way", .int ((ns.getD 3 0).fmod 3)) :: _) _ _ _
  generalize hway : (ns.getD 3 0).fmod 3 = way
  generalize hdraw : (ns.getD 3 0).fdiv 3 = draw at b1 b2 hcut
  refine ex_seq (ex_if (tr_cmp (ev_name rfl rfl) ev_int fun X A s v u hA h1 h2 => cmp_lt h1 h2) (fun hb => ?_) (fun hb => ex_nil ?_))
  · rw [if_pos (of_decide_eq_true hb)]
    have er : ((upto (draw.fmod told.length)).map fun k => drawnL ns k many R way) = ((upto (draw.fmod told.length)).filter fun _ => true).map fun k => drawnL ns k many R way := by rw [List.filter_eq_self.mpr (fun _ _ => rfl)]
    rw [er]
    exact ex_seq (ex_return (ev_compM (g := D.int) (h := PR) inj_int (src_range g6 boot_range (ev_mod (ev_name rfl rfl) (ev_lenM g2 boot_len (ev_name rfl rfl) (by lia)) (by lia)) (by lia) (by lia)) (fun C cl k hk => tests_nil) (fun C cl k hk _ => ev_call g8 hd (.cons (ev_name rfl rfl) (.cons (ev_name rfl rfl) (.cons (ev_name rfl rfl) (.cons (ev_name rfl rfl) (.cons (ev_name rfl rfl) .nil rfl) rfl) rfl) rfl) rfl) (DRAWN k way (mem_upto.mp hk).1)) (by rw [upto_len]; lia)) rfl)
  rw [if_neg (of_decide_eq_false hb)]
  refine ex_seq (ex_assign (ev_mod (ev_name rfl rfl) (ev_lenM g2 boot_len (ev_name rfl rfl) (by lia)) (by lia)) ?_)
  generalize draw.fmod told.length = i at b1 b2 hcut
  have hmap : (told.map PR).take i.toNat ++ (told.map PR).drop (i + 1).toNat = (cutL told i).map PR := by unfold cutL; rw [List.map_append, List.map_take, List.map_drop]
  refine ex_seq (ex_assignF (ds := (cutL told i).map PR) (by
    rw [← hmap]
    exact evF_catL (ev_sliceTo (ev_name rfl rfl) (ev_name rfl rfl) b2 (by rw [List.length_map]; lia)) (ev_sliceFrom (ev_name rfl rfl) (ev_add (ev_name rfl rfl) ev_int) (by lia) (by rw [List.length_map]; lia)) (by simp; lia)) fun a _ => ?_)
  generalize cutL told i = cut at hcut
  refine ex_seq (ex_if_join (b := decide ((draw.fdiv told.length).fmod 2 = 1 ∧ cut ≠ [])) [("_law_found", RS (if (draw.fdiv told.length).fmod 2 = 1 ∧ cut ≠ [] then cut.set ((ns.getD 4 0).fmod cut.length).toNat (drawnL ns 0 many R ((ns.getD 5 0).fmod 2)) else cut))] (dropM [(a, cut.map PR)] a)
    (tr_and (a := (draw.fdiv told.length).fmod 2 == 1) (tr_cmp (ev_mod (ev_fdiv (ev_name rfl rfl) (ev_lenM g2 boot_len (ev_name rfl rfl) (by lia)) (by lia) hlen3) ev_int (by decide)) ev_int fun X A s v u hA h1 h2 => cmp_eq h1 h2)
      (fun ha => tr_and (a := !decide (cut = [])) (tr_lend (x := "_law_found") (a := a) (ds := cut.map PR) rfl (.head _) (tr_cmp (ev_name rfl rfl) (ev_list .nil (by simp)) fun X A s v u hA h1 h2 => cmp_Ne enc_RS (by decide) (a := cut) (b := []) hA h1 h2)) (fun hb => ?_) (fun hb => ?_)) (fun ha => ?_)) (fun hb => ?_) (fun hb => ?_) fun ρ' hρ => ?_)
  · have e1 : (draw.fdiv told.length).fmod 2 = 1 := by simpa using ha
    have e2 : cut ≠ [] := by simpa using hb
    rw [decide_eq_true ⟨e1, e2⟩]; exact tr_and0
  · have e2 : cut = [] := by simpa using hb
    simp [e2]
  · have e1 : ¬ (draw.fdiv told.length).fmod 2 = 1 := by simpa using ha
    exact decide_eq_false fun q => e1 q.1
  · have hb' := of_decide_eq_true hb
    rw [if_pos hb']
    have hp2 : 0 < (cut.length : Int) := by have := List.length_pos_iff.mpr hb'.2; lia
    have c1 := fmod_lt (a := ns.getD 4 0) hp2
    have c2 := fmod_nn (a := ns.getD 4 0) hp2
    refine ex_seq (ex_setItem (x := "_law_found") (a := a) (ds := cut.map PR) (n := (ns.getD 4 0).fmod cut.length) rfl (.head _) (ev_call g8 hd (.cons (ev_name rfl rfl) (.cons ev_int (.cons (ev_name rfl rfl) (.cons (ev_name rfl rfl) (.cons (ev_mod (ev_call g1 hc (.cons (ev_name rfl rfl) (.cons ev_int .nil rfl) rfl) (CELL 5 (by decide))) ev_int (by decide)) .nil rfl) rfl) rfl) rfl) rfl) (DRAWN 0 _ (by decide)))
      (ev_mod (ev_call g1 hc (.cons (ev_name rfl rfl) (.cons ev_int .nil rfl) rfl) (CELL 4 (by decide))) (ev_lend (x := "_law_found") (a := a) (ds := cut.map PR) rfl (.head _) (ev_lenM g2 boot_len (ev_name rfl rfl) (by lia))) (by lia)) c2 (by rw [List.length_map]; exact c1) (by rw [List.length_map]; lia) (ex_nil ⟨?_, rfl⟩))
    rw [← List.map_set]
    exact has_of (hasAll_cons rfl hasAll_nil)
  · rw [if_neg (of_decide_eq_false hb)]
    exact ex_freeze (x := "_law_found") (a := a) (ds := cut.map PR) rfl (.head _) (ex_nil ⟨has_of (hasAll_cons rfl hasAll_nil), rfl⟩)
  refine ex_has ?_ hρ
  exact ex_seq (ex_return (ev_name rfl rfl) rfl)
end
end Mine
end

/-! # L9d -/
section
open PySem PySem.Calls PyProof.Rows PySem.W
set_option autoImplicit false
set_option linter.unusedVariables false
namespace Mine
def methOf : Stmt → Nat → Stmt
  | .ClassDef _ _ _ body _ _ _ _ _ _ _, j => body[j]?.getD (.Pass ⟨0,0,0,0⟩)
  | s, _ => s
def meth (j : Nat) : Stmt := methOf (st 10) j

abbrev tabD (C : Addr) (many : Int) (R : List (List Int)) : D := .inst C ["rows", "many"] [RR R, .int many]

structure MethK (c : Cx) (K : Frag) (C : Addr) (name : Str) (st : Stmt) (f : Addr) : Prop where
  find : findIn K (.ref C) name = some (some (.ref f))
  fn : typeIn K (.ref f) = some (.type "function")
  at_ : FnAt c f st
structure TabK (c : Cx) (K : Frag) (C : Addr) : Prop where
  cls : ClsK c K C
  many : findIn K (.ref C) "many" = some none
  rows : findIn K (.ref C) "rows" = some none

section
variable {c : Cx} {f C : Addr} {K : Frag}

theorem has_all_ok (hf : FnAt c f (st 9)) (ns ms : List Int) : Fn c 1 f [I ns, I ms] (.bool (hasB ns ms)) := by
  refine fn_of hf (binds2 fun _ _ _ _ _ _ _ _ _ => rfl) (fun qn cdv L => ?_)
  refine ex_seq (ex_for (ds := ms.map .int) (src_list (ev_name rfl rfl)) ?_)
  refine turns_st (σ := Unit) (fun _ => [("numbers", I ns)]) (fun _ => []) (fun l _ => hasB ns ms = hasB ns l) ?_ ?_ ms () _ rfl (has_of (hasAll_cons rfl hasAll_nil))
  · intro a rest t hJ
    refine ex_seq (ex_if (tr_cmp (ev_name rfl rfl) (ev_name rfl rfl) fun X A s v u hA h1 h2 => cmp_NotIn enc_int (by decide) (a := a) (l := ns) hA h1 h2) (fun hb => ?_) (fun hb => ?_))
    · refine ex_seq (ex_return ev_bool ?_)
      simp at hb
      rw [hJ]; simp [retOf, hasB, hb]
    · refine ex_nil (ex_nil ⟨(), ?_, has_of (hasAll_cons rfl hasAll_nil), rfl⟩)
      simp at hb
      rw [hJ]; simp [hasB, hb]
  · intro t ρ' hJ hρ
    refine ex_has ?_ hρ
    refine ex_seq (ex_return ev_bool ?_)
    rw [hJ]; simp [retOf, hasB]

theorem told_ok (hf : FnAt c f (st 8)) (g1 : c.mg "sorted" = none) (g2 : c.mg "set" = none) (S : List Int) (h : S.length < 64) : Fn c 1 f [I S] (I (norm S)) := by
  refine fn_of hf (binds1 fun _ _ _ _ _ _ _ _ => rfl) (fun qn cdv L => ?_)
  exact ex_seq (ex_return (evF_sortedSet sortLt64 g1 boot_sorted g2 boot_set (ev_name rfl rfl) (by lia) (Nat.lt_of_le_of_lt (norm_length_le S) h)).ev rfl)

theorem need_ok (H : ClsK c K C) (hm : findIn K (.ref C) "many" = some none) (hf : FnAt c f (meth 1)) {ns : List Str} {ds : List D} {many : Int} {S : List Int} (hl : (ns.zip ds).lookup ("many" : Str) = some (.int many)) (hS : ∀ m ∈ S, 0 ≤ m ∧ m < many) :
    Fn c 1 f [.inst C ns ds, I S] .none := by
  refine fn_of hf (binds2 fun _ _ _ _ _ _ _ _ _ => rfl) (fun qn cdv L => ?_)
  refine ex_seq (ex_for (ds := S.map .int) (src_list (ev_name rfl rfl)) ?_)
  refine turns_st (σ := Unit) (fun _ => [("self", .inst C ns ds)]) (fun _ => []) (fun l _ => ∀ m ∈ l, 0 ≤ m ∧ m < many) ?_ ?_ S () _ hS (has_of (hasAll_cons rfl hasAll_nil))
  · intro a rest t hJ
    have ha := hJ a (.head _)
    refine ex_seq (ex_if (b := false) (tr_or (a := decide (a < 0)) (tr_cmp (ev_name rfl rfl) ev_int fun X A s v u hA h1 h2 => cmp_lt h1 h2) (fun _ => tr_or (a := decide (many ≤ a)) (tr_cmp (ev_name rfl rfl) (ev_attr H hm (ev_name rfl rfl) hl) fun X A s v u hA h1 h2 => cmp_ge h1 h2) (fun _ => tr_or0) (fun h => ?_)) (fun h => ?_)) (fun h => nomatch h) (fun _ => ?_))
    · have := of_decide_eq_true h; lia
    · have := of_decide_eq_true h; lia
    · exact ex_nil (ex_nil ⟨(), fun m hm' => hJ m (.tail _ hm'), has_of (hasAll_cons rfl hasAll_nil), rfl⟩)
  · intro t ρ' hJ hρ
    exact ex_nil rfl

theorem things_ok {fn fh : Addr} (H : TabK c K C) (hn : MethK c K C "need_marks" (meth 1) fn) (hh : FnAt c fh (st 9)) (g1 : c.mg "has_all" = some (.ref fh)) (g2 : c.mg "len" = none) (g3 : c.mg "range" = none) (hf : FnAt c f (meth 2)) {many : Int} {R : List (List Int)} (hR : R.length ≤ 6) {S : List Int} (hS : ∀ m ∈ S, 0 ≤ m ∧ m < many) :
    Fn c 2 f [tabD C many R, I S] (I (thingsL R S)) := by
  refine fn_of hf (binds2 fun _ _ _ _ _ _ _ _ _ => rfl) (fun qn cdv L => ?_)
  refine ex_seq (ex_expr (ev_meth H.cls hn.find hn.fn hn.at_ (ev_name rfl rfl) (.cons (ev_name rfl rfl) .nil rfl) (need_ok H.cls H.many hn.at_ rfl hS)) ?_)
  unfold thingsL
  rw [I_filter]
  refine ex_seq (ex_return (ev_compM (g := D.int) (h := D.int) inj_int (src_range g3 boot_range (ev_lenM g2 boot_len (ev_attr H.cls H.rows (ev_name rfl rfl) rfl) (by lia)) (by lia) (by lia)) (fun C cl t ht => tests_one ?_) (fun C cl t ht _ => ev_name rfl rfl) (by rw [upto_len]; lia)) rfl)
  have ht' := mem_upto.mp ht
  exact tr_plain (ev_call g1 hh (.cons (ev_item (ev_attr H.cls H.rows (ev_name rfl rfl) rfl) (ev_name rfl rfl) ht'.1 (rowAt ht'.1 ht'.2) (by rw [List.length_map]; lia)) (.cons (ev_name rfl rfl) .nil rfl) rfl) (has_all_ok hh _ _))

theorem marks_ok (H : TabK c K C) (g2 : c.mg "len" = none) (g3 : c.mg "range" = none) (g4 : c.mg "all" = none) (hf : FnAt c f (meth 3)) {many : Int} (m0 : 0 ≤ many) (m6 : many ≤ 6) {R : List (List Int)} (hR : R.length ≤ 6) {T : List Int} (hT : ∀ t ∈ T, 0 ≤ t ∧ t < R.length) (hTl : T.length ≤ 100) :
    Fn c 2 f [tabD C many R, I T] (I (marksL many R T)) := by
  refine fn_of hf (binds2 fun _ _ _ _ _ _ _ _ _ => rfl) (fun qn cdv L => ?_)
  refine ex_seq (ex_for (ds := T.map .int) (src_list (ev_name rfl rfl)) ?_)
  refine turns_st (σ := Unit) (fun _ => [("self", tabD C many R), ("things", I T)]) (fun _ => []) (fun l _ => ∀ t ∈ l, 0 ≤ t ∧ t < (R.length : Int)) ?_ ?_ T () _ hT (has_of (hasAll_cons rfl (hasAll_cons rfl hasAll_nil)))
  · intro a rest t hJ
    have ha := hJ a (.head _)
    refine ex_seq (ex_if (b := false) (tr_or (a := decide (a < 0)) (tr_cmp (ev_name rfl rfl) ev_int fun X A s v u hA h1 h2 => cmp_lt h1 h2) (fun _ => tr_or (a := decide ((R.length : Int) ≤ a)) (tr_cmp (ev_name rfl rfl) (ev_lenM g2 boot_len (ev_attr H.cls H.rows (ev_name rfl rfl) rfl) (by lia)) fun X A s v u hA h1 h2 => cmp_ge h1 h2) (fun _ => tr_or0) (fun h => ?_)) (fun h => ?_)) (fun h => nomatch h) (fun _ => ?_))
    · have := of_decide_eq_true h; lia
    · have := of_decide_eq_true h; lia
    · exact ex_nil (ex_nil ⟨(), fun m hm' => hJ m (.tail _ hm'), has_of (hasAll_cons rfl (hasAll_cons rfl hasAll_nil)), rfl⟩)
  intro t ρ' hJ hρ
  refine ex_has ?_ hρ
  refine ex_seq (ex_assignF evF_nil fun a _ => ?_)
  refine ex_seq (ex_for (src_range (n := many) g3 boot_range (ev_attr H.cls H.many (ev_name rfl rfl) rfl) (by lia) (by lia)) ?_)
  refine turns_st (f := D.int) (σ := List Int) (fun t => [("found", .raw (.ref a)), ("self", tabD C many R), ("things", I T)]) (fun t => [(a, t.map .int)])
    (fun l t => t.length + l.length ≤ 6 ∧ marksL many R T = t ++ l.filter (fun m => T.all fun t => decide (m ∈ R.getD t.toNat []))) ?_ ?_ (upto many) [] _
    ⟨by rw [upto_len]; show 0 + _ ≤ 6; lia, rfl⟩ (has_of (hasAll_cons rfl (hasAll_cons rfl (hasAll_cons rfl hasAll_nil))))
  · rintro m rest t ⟨hlen, he⟩
    simp only [List.length_cons] at hlen
    refine ex_seq (ex_if_join (b := T.all fun t => decide (m ∈ R.getD t.toNat [])) [("found", .raw (.ref a)), ("self", tabD C many R), ("things", I T)] [(a, (t ++ [m].filter (fun m => T.all fun t => decide (m ∈ R.getD t.toNat []))).map .int)] (tr_plain ?_) (fun hb => ?_) (fun hb => ?_) fun ρ' hρ => ?_)
    · have e : (T.all fun t => decide (m ∈ R.getD t.toNat [])) = ((T.filter fun _ => true).map fun t => decide (m ∈ R.getD t.toNat [])).all id := by
        rw [List.filter_eq_self.mpr (fun _ _ => rfl), List.all_map]; rfl
      rw [e]
      refine ev_all g4 boot_all (ev_compM (g := D.int) (h := D.bool) inj_int (src_list (ev_name rfl rfl)) (fun C cl t ht => tests_nil) (fun C cl t ht _ => ?_) (by lia))
      have ht' := hT t ht
      exact ev_cmp (ev_name rfl rfl) (ev_item (ev_attr H.cls H.rows (ev_name rfl rfl) rfl) (ev_name rfl rfl) ht'.1 (rowAt ht'.1 ht'.2) (by rw [List.length_map]; lia)) fun X A s v u hA h1 h2 => cmp_In enc_int (by decide) (a := m) (l := R.getD t.toNat []) hA h1 h2
    · refine ex_seq (ex_append (x := "found") (a := a) (ds := t.map .int) rfl (.head _) (ev_name rfl rfl) (by rw [List.length_map]; lia) (ex_nil ⟨has_of (hasAll_cons rfl (hasAll_cons rfl (hasAll_cons rfl hasAll_nil))), ?_⟩))
      have e : [m].filter (fun m => T.all fun t => decide (m ∈ R.getD t.toNat [])) = [m] := List.filter_cons_of_pos (p := fun m => T.all fun t => decide (m ∈ R.getD t.toNat [])) (l := []) hb
      rw [e]; simp [setM]
    · refine ex_nil ⟨has_of (hasAll_cons rfl (hasAll_cons rfl (hasAll_cons rfl hasAll_nil))), ?_⟩
      have e : [m].filter (fun m => T.all fun t => decide (m ∈ R.getD t.toNat [])) = [] := List.filter_cons_of_neg (p := fun m => T.all fun t => decide (m ∈ R.getD t.toNat [])) (l := []) (by show ¬ (T.all fun t => decide (m ∈ R.getD t.toNat [])) = true; rw [hb]; decide)
      rw [e, List.append_nil]
    · refine ex_nil ⟨t ++ [m].filter (fun m => T.all fun t => decide (m ∈ R.getD t.toNat [])), ⟨?_, ?_⟩, hρ, rfl⟩
      · rw [List.length_append]
        have := List.length_filter_le (fun m => T.all fun t => decide (m ∈ R.getD t.toNat [])) [m]
        simp only [List.length_cons, List.length_nil] at this
        lia
      · rw [he, List.append_assoc, ← List.filter_append]; rfl
  · rintro t ρ' ⟨_, he⟩ hρ
    have he' : marksL many R T = t := by simpa using he
    refine ex_has ?_ hρ
    refine ex_freeze (x := "found") (a := a) (ds := t.map .int) rfl (.head _) ?_
    rw [he']
    exact ex_seq (ex_return (ev_name rfl rfl) rfl)

theorem closed_ok {fn fh ft fm : Addr} (H : TabK c K C) (hn : MethK c K C "need_marks" (meth 1) fn) (ht : MethK c K C "things_with" (meth 2) ft) (hm : MethK c K C "marks_of" (meth 3) fm) (hh : FnAt c fh (st 9)) (g1 : c.mg "has_all" = some (.ref fh)) (g2 : c.mg "len" = none) (g3 : c.mg "range" = none) (g4 : c.mg "all" = none) (hf : FnAt c f (meth 4))
    {many : Int} (m0 : 0 ≤ many) (m6 : many ≤ 6) {R : List (List Int)} (hR : R.length ≤ 6) {S : List Int} (hS : ∀ m ∈ S, 0 ≤ m ∧ m < many) : Fn c 3 f [tabD C many R, I S] (I (cloL many R S)) := by
  refine fn_of hf (binds2 fun _ _ _ _ _ _ _ _ _ => rfl) (fun qn cdv L => ?_)
  refine ex_seq (ex_return (ev_meth H.cls hm.find hm.fn hm.at_ (ev_name rfl rfl) (.cons (ev_meth H.cls ht.find ht.fn ht.at_ (ev_name rfl rfl) (.cons (ev_name rfl rfl) .nil rfl) (things_ok H hn hh g1 g2 g3 ht.at_ hR hS)) .nil rfl) (marks_ok H g2 g3 g4 hm.at_ m0 m6 hR (fun t ht => mem_upto.mp (mem_things.mp ht).1) ?_)) rfl)
  exact Nat.le_trans (List.length_filter_le _ _) (by rw [upto_len]; lia)
end
end Mine
end

/-! # L9e -/
section
open PySem PySem.Calls PyProof.Rows PySem.W
set_option autoImplicit false
set_option linter.unusedVariables false
namespace Mine

theorem zip_set {n : Str} {v : Value} {ns : List Str} {us : List Value} : (fun y => if y = n then some v else (ns.zip us).lookup y) = fun y => ((n :: ns).zip (v :: us)).lookup y := by
  funext y
  rw [List.zip_cons_cons, List.lookup_cons]
  by_cases h : y = n
  · subst h; simp
  · have : (y == n) = false := by simpa using h
    rw [this, if_neg h]

section
variable {c : Cx} {f C : Addr} {K : Frag}

def stm (i : Nat) : Stmt := (bodyOf (meth 0))[i]?.getD (.Pass ⟨0,0,0,0⟩)
def valOf : Stmt → Expr
  | .Assign _ e _ => e
  | _ => default
abbrev rho0 (x : Addr) (many : Int) (R : List (List Int)) : Vars := [("rows", RR R), ("many", .int many), ("self", .raw (.ref x))]

theorem init_if {t1 t2 : Tok} (g2 : c.mg "len" = none) (g5 : c.mg "MOST_MARKS" = some (.int 8 t1)) (g6 : c.mg "MOST_THINGS" = some (.int 12 t2)) {many : Int} (m0 : 0 ≤ many) (m8 : many ≤ 8) {R : List (List Int)} (hR : R.length ≤ 12) (x : Addr) (qn : Str) (cdv : Value) (L : Addr) :
    Ex1 c 1 (fenv (meth 0) qn cdv L f) (rho0 x many R) [] (stm 0) (fun o ρ' μ' => o = .next ∧ Has (rho0 x many R) ρ' ∧ μ' = []) := by
  refine ex_if (b := false) (tr_or (a := decide (many < 0)) (tr_cmp (ev_name rfl rfl) ev_int fun X A s v u hA h1 h2 => cmp_lt h1 h2) (fun _ => tr_or (a := decide (8 < many)) (tr_cmp (ev_name rfl rfl) (ev_globalInt g5) fun X A s v u hA h1 h2 => cmp_gt h1 h2)
    (fun _ => tr_or (a := decide (12 < (R.length : Int))) (tr_cmp (ev_lenM g2 boot_len (ev_name rfl rfl) (by lia)) (ev_globalInt g6) fun X A s v u hA h1 h2 => cmp_gt h1 h2) (fun _ => tr_or0) (fun h => ?_)) (fun h => ?_)) (fun h => ?_)) (fun h => nomatch h) (fun _ => ex_nil ⟨rfl, Has.refl _, rfl⟩)
  · have := of_decide_eq_true h; lia
  · have := of_decide_eq_true h; lia
  · have := of_decide_eq_true h; lia

theorem init_for {fn : Addr} (H : TabK c K C) (hn : MethK c K C "need_marks" (meth 1) fn) {many : Int} {R : List (List Int)} (hr : ∀ r ∈ R, ∀ m ∈ r, 0 ≤ m ∧ m < many) {x dx : Addr} {t : Tok} (hx : c.base.get? x = some (instObj C dx)) (hns : c.base.Ns dx (fun y => ((["many"] : List Str).zip ([.int many t] : List Value)).lookup y)) (qn : Str) (cdv : Value) (L : Addr) :
    Ex1 c 1 (fenv (meth 0) qn cdv L f) (rho0 x many R) [] (stm 2) (fun o ρ' μ' => o = .next ∧ Has (rho0 x many R) ρ' ∧ μ' = []) := by
  refine ex_for (ds := R.map I) (src_list (ev_name rfl rfl)) ?_
  refine turns_st (f := I) (σ := Unit) (fun _ => rho0 x many R) (fun _ => []) (fun l _ => ∀ r ∈ l, ∀ m ∈ r, 0 ≤ m ∧ m < many) ?_ ?_ R () _ hr (Has.refl _)
  · intro r rest t hJ
    refine ex_seq (ex_expr (ev_lendI (n := "self") hx hns rfl (.cons (.int _ _) .nil) (fun d hd => by rcases List.mem_singleton.mp hd with rfl; rfl) rfl (ev_meth H.cls hn.find hn.fn hn.at_ (ev_name rfl rfl) (.cons (ev_name rfl rfl) .nil rfl) (need_ok (many := many) H.cls H.many hn.at_ rfl (hJ r (.head _))))) (ex_nil ⟨(), fun r' h' => hJ r' (.tail _ h'), has_of (hasAll_cons rfl (hasAll_cons rfl (hasAll_cons rfl hasAll_nil))), rfl⟩))
  · intro t ρ' _ hρ
    exact ⟨rfl, hρ, rfl⟩

theorem init_rows {ft : Addr} (hto : FnAt c ft (st 8)) (g1 : c.mg "told" = some (.ref ft)) (g3 : c.mg "sorted" = none) (g4 : c.mg "set" = none) {many : Int} {R : List (List Int)} (hR : R.length ≤ 12) (hr : ∀ r ∈ R, r.length < 64) (x : Addr) (qn : Str) (cdv : Value) (L : Addr) :
    Ev c 1 (fenv (meth 0) qn cdv L f) (rho0 x many R) [] (valOf (stm 3)) (RR (R.map norm)) := by
  have e : RR (R.map norm) = .list (((R.filter fun _ => true).map norm).map I) := by rw [List.filter_eq_self.mpr (fun _ _ => rfl)]
  rw [e]
  exact ev_compM (g := I) (h := I) inj_I (src_list (ev_name rfl rfl)) (fun C cl r hr' => tests_nil) (fun C cl r hr' _ => ev_call g1 hto (.cons (ev_name rfl rfl) .nil rfl) (told_ok hto g3 g4 r (hr r hr'))) (by lia)

theorem init_body {fn ft : Addr} {t1 t2 : Tok} (H : TabK c K C) (hn : MethK c K C "need_marks" (meth 1) fn) (hsa : findIn K (.ref C) "__setattr__" = some (some (.builtin "object.__setattr__"))) (hpo : plainOver K C = true) (hto : FnAt c ft (st 8)) (g1 : c.mg "told" = some (.ref ft)) (g2 : c.mg "len" = none) (g3 : c.mg "sorted" = none) (g4 : c.mg "set" = none)
    (g5 : c.mg "MOST_MARKS" = some (.int 8 t1)) (g6 : c.mg "MOST_THINGS" = some (.int 12 t2)) {many : Int} (m0 : 0 ≤ many) (m8 : many ≤ 8) {R : List (List Int)} (hR : R.length ≤ 12) (hr : ∀ r ∈ R, (∀ m ∈ r, 0 ≤ m ∧ m < many) ∧ r.length < 64)
    {X : Addr → Prop} {A : Around} {E : Value → Shared → Prop} {s : Shared} {x dx L : Addr} {qn : Str} {cdv : Value} {Q : Flow → Shared → Prop} (I : MkI c X (fenv (meth 0) qn cdv L f) x dx) (S : St c X (fenv (meth 0) qn cdv L f) (rho0 x many R) [] s) (N : Mkg C x dx (fun _ => none) s) (hA : Room 1 A)
    (h : ∀ s' v t, GoI (fenv (meth 0) qn cdv L f) dx s s' → s'.heap.Ns dx (fun y => ((["rows", "many"] : List Str).zip ([v, .int many t] : List Value)).lookup y) → Rd (XOf X (fenv (meth 0) qn cdv L f) []) s'.heap v (RR (R.map norm)) → Q .next s') :
    wpAny (model c.prog c.w) A (execs (bodyOf (meth 0)) (fenv (meth 0) qn cdv L f)) Q E s := by
  refine wpAny_execs_cons (step_ex I S N hA (init_if g2 g5 g6 m0 m8 hR x qn cdv L) fun s₁ S₁ G₁ N₁ => ?_)
  refine wpAny_execs_cons (step_self I S₁ N₁ hA H.cls.kx hsa hpo H.many H.cls.dict Within.nil (by decide) (d := .int many) (ev_name rfl rfl) rfl fun v s₂ S₂ G₂ N₂ r₂ => ?_)
  obtain ⟨t, rfl⟩ := rd_int r₂
  have z : (fun y => if y = ("many" : Str) then some (Value.int many t) else none) = fun y => ((["many"] : List Str).zip ([.int many t] : List Value)).lookup y := zip_set (ns := []) (us := [])
  have w := Within.cons "many" (Value.int many t) Within.nil
  rw [z] at N₂ w
  refine wpAny_execs_cons (step_on I S₂ N₂ hA (fun hb kb h1 h2 => init_for ⟨H.cls.on kb, H.many, H.rows⟩ ⟨hn.find, hn.fn, hn.at_.on kb⟩ (fun r h => (hr r h).1) h1 h2 qn cdv L) fun s₃ S₃ G₃ N₃ => ?_)
  refine wpAny_execs_cons (step_self I S₃ N₃ hA H.cls.kx hsa hpo H.rows H.cls.dict w (by decide) (init_rows hto g1 g3 g4 hR (fun r h => (hr r h).2) x qn cdv L) rfl fun v s₄ S₄ G₄ N₄ r₄ => wpAny_execs_nil ?_)
  exact h s₄ v t (((G₁.trans G₂).trans G₃).trans G₄) (zip_set (n := "rows") (v := v) (ns := ["many"]) (us := [.int many t]) ▸ N₄.ns.ns) r₄

theorem init_ok {fn ft : Addr} {t1 t2 : Tok} (H : TabK c K C) (hn : MethK c K C "need_marks" (meth 1) fn) (hsa : findIn K (.ref C) "__setattr__" = some (some (.builtin "object.__setattr__"))) (hpo : plainOver K C = true) (hto : FnAt c ft (st 8)) (g1 : c.mg "told" = some (.ref ft)) (g2 : c.mg "len" = none) (g3 : c.mg "sorted" = none) (g4 : c.mg "set" = none)
    (g5 : c.mg "MOST_MARKS" = some (.int 8 t1)) (g6 : c.mg "MOST_THINGS" = some (.int 12 t2)) (hf : FnAt c f (meth 0)) {many : Int} (m0 : 0 ≤ many) (m8 : many ≤ 8) {R : List (List Int)} (hR : R.length ≤ 12) (hr : ∀ r ∈ R, (∀ m ∈ r, 0 ≤ m ∧ m < many) ∧ r.length < 64) :
    InitF c 2 f C [.int many, RR R] ["rows", "many"] [RR (R.map norm), .int many] := by
  intro X A s vs x dx hA hbase hlive hXx hXd hne hbx hbd hx hns hvs
  refine fn_enter (ds := [.raw (.ref x), .int many, RR R]) hf (binds3 fun _ _ _ _ _ _ _ _ _ _ => rfl) rfl hA hbase hlive (.cons (.raw _) hvs) fun qn cdv L s₁ S₁ k₁ newM hA' => ?_
  have I : MkI c X (fenv (meth 0) qn cdv L f) x dx := ⟨hXd, hbd, fun m => no1 (newM x m) hx, fun m => by obtain ⟨o, _, _, e, _⟩ := hns; exact no1 (newM dx m) e, hne⟩
  refine wpAny_mono (init_body (Q := fun fl s' => fl = .next ∧ GoI (fenv (meth 0) qn cdv L f) dx s₁ s' ∧ ∃ v t, s'.heap.Ns dx (fun y => ((["rows", "many"] : List Str).zip ([v, .int many t] : List Value)).lookup y) ∧ Rd (XOf X (fenv (meth 0) qn cdv L f) []) s'.heap v (RR (R.map norm))) H hn hsa hpo hto g1 g2 g3 g4 g5 g6 m0 m8 hR hr I S₁ ⟨k₁.sub _ _ hx, hns.at fun o e => k₁.sub _ _ e⟩ hA' fun s' v t g n r => ⟨rfl, g, v, t, n, r⟩) (fun fl s' p => ?_) fun _ _ e => e
  obtain ⟨rfl, g, v, t, n, r⟩ := p
  exact ⟨rfl, fun b o nb e => g.keep b o nb (fun m => no1 (newM b m) e) (k₁.sub _ _ e), k₁.same.trans g.same, [v, .int many t], n, rfl, .cons (r.weak fun b h => .inl h) (.cons (.int _ _) .nil)⟩

/-! ## subsets -/
theorem subsets_ok (hf : FnAt c f (st 12)) (g2 : c.mg "len" = none) (g3 : c.mg "range" = none) (g5 : c.mg "sorted" = none) {n : Nat} (hn : n ≤ 6) : Fn c 1 f [.int n] (.list ((sortedL n).map TP)) := by
  refine fn_of hf (binds1 fun _ _ _ _ _ _ _ _ => rfl) (fun qn cdv L => ?_)
  have hsmall : ∀ k, k ≤ n → (subsL k).length ≤ 64 := fun k hk => by
    rw [subs_len]
    exact Nat.le_trans (Nat.pow_le_pow_right (by decide) (Nat.le_trans hk hn)) (by decide)
  refine ex_seq (ex_assign (d := RR (subsL 0)) (ev_list (.cons (ev_list .nil (by simp)) .nil rfl) (by show 1 ≤ 16777216; decide)) ?_)
  refine ex_seq (ex_for (src_range (n := (n : Int)) g3 boot_range (ev_name rfl rfl) (by lia) (by lia)) ?_)
  refine turns_st (f := D.int) (σ := Nat) (fun k => [("found", RR (subsL k))]) (fun _ => []) (fun l k => k ≤ n ∧ l = (upto n).drop k) ?_ ?_ (upto n) 0 _ ⟨Nat.zero_le _, rfl⟩ (has_of (hasAll_cons rfl hasAll_nil))
  · rintro m rest k ⟨hk, he⟩
    have hlt : k < n := by
      rcases Nat.lt_or_ge k n with h | h
      · exact h
      · rw [List.drop_eq_nil_of_le (by rw [upto_len]; lia)] at he; cases he
    have hlt' : k < (upto n).length := by rw [upto_len]; lia
    rw [List.drop_eq_getElem_cons hlt'] at he
    obtain ⟨h1, h2⟩ := List.cons.inj he
    have hmk : m = (k : Int) := by rw [h1]; simp [upto]
    subst hmk
    have hs := hsmall k (by lia)
    have er : RR (subsL (k + 1)) = .list ((subsL k).map I ++ (((subsL k).filter fun _ => true).map (· ++ [(k : Int)])).map I) := by
      rw [List.filter_eq_self.mpr (fun _ _ => rfl), ← List.map_append]; rfl
    refine ex_seq (ex_assign (d := RR (subsL (k + 1))) ?_ (ex_nil ⟨k + 1, ⟨hlt, h2⟩, has_of (hasAll_cons rfl hasAll_nil), rfl⟩))
    rw [er]
    refine ev_catL (ev_name rfl rfl) (ev_compM (g := I) (h := I) inj_I (src_list (ev_name rfl rfl)) (fun C cl S hS => tests_nil) (fun C cl S hS _ => ?_) (by lia)) (by rw [List.filter_eq_self.mpr (fun _ _ => rfl)]; simp; lia)
    have e2 : I (S ++ [(k : Int)]) = .list (S.map .int ++ [.int k]) := by show D.list ((S ++ [(k : Int)]).map D.int) = _; rw [List.map_append]; rfl
    rw [e2]
    refine ev_catL (ev_name rfl rfl) (ev_list (.cons (ev_name rfl rfl) .nil rfl) (by show 1 ≤ 16777216; decide)) ?_
    have := (subs_small (show k ≤ 8 by lia) hS).2
    rw [List.length_map]; show _ + 1 ≤ _; lia
  · rintro k ρ' ⟨hk, he⟩ hρ
    have hkn : k = n := by
      have := congrArg List.length he
      rw [List.length_drop, upto_len, List.length_nil] at this; lia
    subst hkn
    refine ex_has ?_ hρ
    have hs := hsmall k (Nat.le_refl _)
    refine ex_seq (ex_return (evF_sortedSubs hn g5 boot_sorted ?_).ev rfl)
    have er2 : .list ((subsL k).map TP) = D.list ((((subsL k).filter fun _ => true).map id).map TP) := by rw [List.map_id, List.filter_eq_self.mpr (fun _ _ => rfl)]
    rw [er2]
    refine ev_compM (g := I) (h := TP) inj_I (src_list (ev_name rfl rfl)) (fun C cl S hS => tests_nil) (fun C cl S hS _ => ?_) (by lia)
    have := (subs_small (show k ≤ 8 by lia) hS).2
    exact ev_tuple (.cons (ev_lenM (l := S) g2 boot_len (ev_name rfl rfl) (by lia)) (.cons (ev_name rfl rfl) .nil rfl) rfl) (by show 2 ≤ 16777216; decide)

theorem knot_ok {fh : Addr} (hf : FnAt c f (st 14)) (hh : FnAt c fh (st 9)) (g1 : c.mg "has_all" = some (.ref fh)) (g2 : c.mg "len" = none) (S cl : List Int) (hS : S.length ≤ 100) (ks : List MRule) (hks : ∀ k ∈ ks, k.1.length ≤ 100) : Fn c 2 f [I S, I cl, RS ks] (.bool (isKnot S cl ks)) := by
  refine fn_of hf (binds3 fun _ _ _ _ _ _ _ _ _ _ => rfl) (fun qn cdv L => ?_)
  refine ex_seq (ex_if (tr_cmp (ev_name rfl rfl) (ev_name rfl rfl) fun X A s v u hA h1 h2 => cmp_Eq enc_I (by decide) (a := cl) (b := S) hA h1 h2) (fun hb => ?_) (fun hb => ex_nil ?_))
  · refine ex_seq (ex_return ev_bool ?_)
    simp [retOf, isKnot, of_decide_eq_true hb]
  have hne := of_decide_eq_false hb
  refine ex_seq (ex_for (ds := ks.map PR) (src_list (ev_name rfl rfl)) ?_)
  refine turns_st (f := PR) (σ := Unit) (fun _ => [("marks", I S)]) (fun _ => []) (fun l _ => (∀ k ∈ l, k.1.length ≤ 100) ∧ isKnot S cl ks = l.all fun k => !(decide (k.1.length < S.length) && hasB S k.1 && !hasB S k.2)) ?_ ?_ ks () _ ⟨hks, by unfold isKnot; rw [decide_eq_false hne, Bool.not_false, Bool.true_and]⟩ (has_of (hasAll_cons rfl hasAll_nil))
  · rintro k rest _ ⟨hl, he⟩
    have hk := hl k (.head _)
    refine ex_seq (ex_if (b := decide (k.1.length < S.length) && hasB S k.1 && !hasB S k.2) (tr_and (a := decide ((k.1.length : Int) < S.length)) (tr_cmp (ev_lenM (l := k.1) g2 boot_len (ev_itemT (ev_name rfl rfl) ev_int (by decide) (by decide) rfl) (by lia)) (ev_lenM g2 boot_len (ev_name rfl rfl) (by lia)) fun X A s v u hA h1 h2 => cmp_lt h1 h2)
      (fun h1 => tr_and (a := hasB S k.1) (tr_plain (ev_call g1 hh (.cons (ev_name rfl rfl) (.cons (ev_itemT (ev_name rfl rfl) ev_int (by decide) (by decide) rfl) .nil rfl) rfl) (has_all_ok hh S k.1))) (fun h2 => tr_and (a := !hasB S k.2) (tr_not (tr_plain (ev_call g1 hh (.cons (ev_name rfl rfl) (.cons (ev_itemT (ev_name rfl rfl) ev_int (by decide) (by decide) rfl) .nil rfl) rfl) (has_all_ok hh S k.2)))) (fun h3 => ?_) (fun h3 => ?_)) (fun h2 => ?_)) (fun h1 => ?_)) (fun hb => ?_) (fun hb => ?_))
    · rw [decide_eq_true (show k.1.length < S.length by have := of_decide_eq_true h1; lia), h2, h3]; exact tr_and0
    · rw [h3, Bool.and_false]
    · rw [h2]; simp
    · rw [decide_eq_false (show ¬ k.1.length < S.length by have := of_decide_eq_false h1; lia)]; simp
    · refine ex_seq (ex_return ev_bool ?_)
      rw [he, List.all_cons, hb]; rfl
    · refine ex_nil (ex_nil ⟨(), ⟨fun k' h' => hl k' (.tail _ h'), ?_⟩, has_of (hasAll_cons rfl hasAll_nil), rfl⟩)
      rw [he, List.all_cons, hb]; rfl
  · rintro _ ρ' ⟨_, he⟩ hρ
    refine ex_seq (ex_return ev_bool ?_)
    rw [he]; rfl
end
end Mine
end

/-! # L9f -/
section
open PySem PySem.Calls PyProof.Rows PySem.W
set_option autoImplicit false
set_option linter.unusedVariables false
namespace Mine

def toldL (n : Nat) (R : List (List Int)) : List MRule := (knotsL n R (sortedL n)).map fun k => (k.1, lackL k.2 k.1)

theorem knot_len (n : Int) (R : List (List Int)) : ∀ (L : List (List Int)) (ks : List MRule), (L.foldl (knotStep n R) ks).length ≤ ks.length + L.length
  | [], ks => Nat.le_refl _
  | S :: L, ks => by
    rw [List.foldl_cons]
    have h := knot_len n R L (knotStep n R ks S)
    have : (knotStep n R ks S).length ≤ ks.length + 1 := by
      unfold knotStep; split
      · simp
      · lia
    rw [List.length_cons]; lia
theorem knot_mem {n : Int} {R : List (List Int)} {P : MRule → Prop} : ∀ (L : List (List Int)) (ks : List MRule), (∀ k ∈ ks, P k) → (∀ S ∈ L, P (S, cloL n R S)) → ∀ k ∈ L.foldl (knotStep n R) ks, P k
  | [], ks, h, _ => h
  | S :: L, ks, h, hL => by
    rw [List.foldl_cons]
    refine knot_mem L _ (fun k hk => ?_) fun T hT => hL T (.tail _ hT)
    unfold knotStep at hk
    split at hk
    · rcases List.mem_append.mp hk with q | q
      · exact h k q
      · rw [List.mem_singleton] at q; subst q; exact hL S (.head _)
    · exact h k hk
theorem sorted_length {n : Nat} (h : n ≤ 6) : (sortedL n).length = 2 ^ n := (sorted_perm h).length_eq.trans (subs_len n)
theorem two_pow_le {n : Nat} (h : n ≤ 6) : 2 ^ n ≤ 64 := Nat.le_trans (Nat.pow_le_pow_right (by decide) h) (by decide)
theorem sub_short {n : Nat} (h : n ≤ 6) {S : List Int} (hS : S.Sublist (upto n)) : S.length ≤ 6 := Nat.le_trans hS.length_le (by rw [upto_len]; lia)
theorem knots_short {n : Nat} (h : n ≤ 6) (R : List (List Int)) : ∀ k ∈ knotsL n R (sortedL n), k.1.length ≤ 6 ∧ k.2.length ≤ 6 :=
  knot_mem _ _ (fun _ h => (nomatch h)) fun S hS => ⟨sub_short h ((mem_sorted h).mp hS), sub_short h clo_sub⟩
theorem told_short {n : Nat} (h : n ≤ 6) (R : List (List Int)) : (∀ r ∈ toldL n R, ShortR r) ∧ (toldL n R).length ≤ 64 := by
  refine ⟨fun r hr => ?_, ?_⟩
  · obtain ⟨k, hk, rfl⟩ := List.mem_map.mp hr
    obtain ⟨h1, h2⟩ := knots_short h R k hk
    exact ⟨Nat.le_trans h1 (by decide), Nat.le_trans (List.length_filter_le _ _) (Nat.le_trans h2 (by decide))⟩
  · unfold toldL
    rw [List.length_map]
    have := knot_len n R (sortedL n) []
    rw [sorted_length h] at this
    have := two_pow_le h
    unfold knotsL
    simp only [List.length_nil] at *
    lia

section
variable {c : Cx} {f C : Addr} {K : Frag}
theorem fewest_ok {fn fh ft fm fc fs fk : Addr} (H : TabK c K C) (hn : MethK c K C "need_marks" (meth 1) fn) (ht : MethK c K C "things_with" (meth 2) ft) (hm : MethK c K C "marks_of" (meth 3) fm) (hcl : MethK c K C "closed" (meth 4) fc) (hh : FnAt c fh (st 9)) (hs : FnAt c fs (st 12)) (hk : FnAt c fk (st 14))
    (g1 : c.mg "has_all" = some (.ref fh)) (g2 : c.mg "len" = none) (g3 : c.mg "range" = none) (g4 : c.mg "all" = none) (g5 : c.mg "sorted" = none) (g6 : c.mg "subsets" = some (.ref fs)) (g7 : c.mg "is_knot" = some (.ref fk)) (hf : FnAt c f (st 15))
    {n : Nat} (hn6 : n ≤ 6) {R : List (List Int)} (hR : R.length ≤ 6) : Fn c 4 f [tabD C n R] (RS (toldL n R)) := by
  refine fn_of hf (binds1 fun _ _ _ _ _ _ _ _ => rfl) (fun qn cdv L => ?_)
  refine ex_seq (ex_assignF evF_nil fun a _ => ?_)
  refine ex_seq (ex_for (ds := (sortedL n).map TP) (src_list (ev_call g6 hs (.cons (ev_attr H.cls H.many (ev_name rfl rfl) rfl) .nil rfl) ((subsets_ok hs g2 g3 g5 hn6).up (by decide)))) ?_)
  refine turns_st (f := TP) (σ := List MRule) (fun _ => [("knots", .raw (.ref a)), ("table", tabD C n R)]) (fun ks => [(a, ks.map PR)])
    (fun l ks => (∀ S ∈ l, S.Sublist (upto n)) ∧ (∀ k ∈ ks, k.1.length ≤ 6) ∧ ks.length + l.length ≤ 64 ∧ knotsL n R (sortedL n) = l.foldl (knotStep n R) ks) ?_ ?_ (sortedL n) [] _
    ⟨fun S hS => (mem_sorted hn6).mp hS, fun _ h => (nomatch h), by rw [sorted_length hn6]; simpa using two_pow_le hn6, rfl⟩ (has_of (hasAll_cons rfl (hasAll_cons rfl hasAll_nil)))
  · rintro S rest ks ⟨hl, hks, hlen, he⟩
    have hS := hl S (.head _)
    have hSl := sub_short hn6 hS
    simp only [List.length_cons] at hlen
    rw [List.foldl_cons] at he
    refine ex_seq (ex_assign (d := I (cloL n R S)) (ev_meth H.cls hcl.find hcl.fn hcl.at_ (ev_name rfl rfl) (.cons (ev_itemT (d := I S) (ev_name rfl rfl) ev_int (by decide) (by decide) rfl) .nil rfl) (closed_ok H hn ht hm hh g1 g2 g3 g4 hcl.at_ (by lia) (by lia) hR fun m hm' => mem_upto.mp (hS.subset hm'))) ?_)
    refine ex_seq (ex_if_join (b := isKnot S (cloL n R S) ks) [("knots", .raw (.ref a)), ("table", tabD C n R)] [(a, (knotStep n R ks S).map PR)]
      (tr_lend (x := "knots") (a := a) (ds := ks.map PR) rfl (.head _) (tr_plain (ev_call g7 hk (.cons (ev_itemT (d := I S) (ev_name rfl rfl) ev_int (by decide) (by decide) rfl) (.cons (ev_name rfl rfl) (.cons (ev_name rfl rfl) .nil rfl) rfl) rfl) ((knot_ok hk hh g1 g2 S (cloL n R S) (by lia) ks fun k hk' => by have := hks k hk'; lia).up (by decide))))) (fun hb => ?_) (fun hb => ?_) fun ρ' hρ => ?_)
    · refine ex_seq (ex_append (x := "knots") (a := a) (ds := ks.map PR) (d := PR (S, cloL n R S)) rfl (.head _) (ev_tuple (.cons (ev_itemT (d := I S) (ev_name rfl rfl) ev_int (by decide) (by decide) rfl) (.cons (ev_name rfl rfl) .nil rfl) rfl) (by show 2 ≤ 16777216; decide)) (by rw [List.length_map]; lia) (ex_nil ⟨has_of (hasAll_cons rfl (hasAll_cons rfl hasAll_nil)), ?_⟩))
      unfold knotStep
      rw [if_pos hb]; simp [setM]
    · refine ex_nil ⟨has_of (hasAll_cons rfl (hasAll_cons rfl hasAll_nil)), ?_⟩
      unfold knotStep
      rw [if_neg (by rw [hb]; decide)]
    · refine ex_nil ⟨knotStep n R ks S, ⟨fun T hT => hl T (.tail _ hT), fun k hk' => ?_, ?_, he⟩, hρ, rfl⟩
      · unfold knotStep at hk'
        split at hk'
        · rcases List.mem_append.mp hk' with q | q
          · exact hks k q
          · rw [List.mem_singleton] at q; subst q; exact hSl
        · exact hks k hk'
      · have : (knotStep n R ks S).length ≤ ks.length + 1 := by
          unfold knotStep; split
          · simp
          · lia
        lia
  · rintro ks ρ' ⟨_, hks, hlen, he⟩ hρ
    have he' : knotsL n R (sortedL n) = ks := he
    have hsh := knots_short hn6 R
    rw [he'] at hsh
    refine ex_has ?_ hρ
    refine ex_freeze (x := "knots") (a := a) (ds := ks.map PR) rfl (.head _) ?_
    have er : RS (toldL n R) = .list (((ks.filter fun _ => true).map fun k => (k.1, lackL k.2 k.1)).map PR) := by
      unfold toldL; rw [he', List.filter_eq_self.mpr (fun _ _ => rfl)]
    rw [er]
    refine ex_seq (ex_return (ev_compM (g := PR) (h := PR) inj_PR (src_list (ev_name rfl rfl)) (fun C cl k hk' => tests_nil) (fun C cl k hk' _ => ?_) (by simp only [List.length_nil] at hlen; lia)) rfl)
    obtain ⟨h1, h2⟩ := hsh k hk'
    refine ev_tuple (.cons (ev_itemT (d := I k.1) (ev_name rfl rfl) ev_int (by decide) (by decide) rfl) (.cons (d := I (lackL k.2 k.1)) ?_ .nil rfl) rfl) (by show 2 ≤ 16777216; decide)
    rw [lackL_eq, I_filter]
    exact ev_compM (g := D.int) (h := D.int) inj_int (src_list (ev_itemT (ev_name rfl rfl) ev_int (by decide) (by decide) rfl)) (fun C cl m hm => tests_one (tr_cmp (ev_name rfl rfl) (ev_itemT (ev_name rfl rfl) ev_int (by decide) (by decide) rfl) fun X A s v u hA h1 h2 => cmp_NotIn enc_int (by decide) (a := m) (l := k.1) hA h1 h2)) (fun C cl m hm _ => ev_name rfl rfl) (by lia)
end
end Mine
end

/-! # L9g -/
section
open PySem PySem.Calls PyProof.Rows PySem.W
set_option autoImplicit false
set_option linter.unusedVariables false
namespace Mine

theorem InitF.up {c : Cx} {j k : Nat} {f C : Addr} {es ds : List D} {ns : List Str} (h : InitF c j f C es ns ds) (hjk : j ≤ k) : InitF c k f C es ns ds := fun X A s vs x dx hA => h X A s vs x dx (hA.le hjk)
structure Lib9 (c : Cx) (K : Frag) (C : Addr) : Prop where
  tab : TabK c K C
  need : ∃ f, MethK c K C "need_marks" (meth 1) f
  things : ∃ f, MethK c K C "things_with" (meth 2) f
  marks : ∃ f, MethK c K C "marks_of" (meth 3) f
  closed : ∃ f, MethK c K C "closed" (meth 4) f
  init : ∃ f, MethK c K C "__init__" (meth 0) f
  sa : findIn K (.ref C) "__setattr__" = some (some (.builtin "object.__setattr__"))
  over : plainOver K C = true
  makes : makesIn K C = true
  cls : c.mg "Table" = some (.ref C)
  mm : ∃ t, c.mg "MOST_MARKS" = some (.int 8 t)
  mt : ∃ t, c.mg "MOST_THINGS" = some (.int 12 t)
  told : ∃ f, c.mg "told" = some (.ref f) ∧ FnAt c f (st 8)
  has_all : ∃ f, c.mg "has_all" = some (.ref f) ∧ FnAt c f (st 9)
  subsets : ∃ f, c.mg "subsets" = some (.ref f) ∧ FnAt c f (st 12)
  knot : ∃ f, c.mg "is_knot" = some (.ref f) ∧ FnAt c f (st 14)
  fewest : ∃ f, c.mg "fewest" = some (.ref f) ∧ FnAt c f (st 15)
  cell : ∃ f, c.mg "_law_cell_at" = some (.ref f) ∧ FnAt c f (st 17)
  mix : ∃ f, c.mg "_law_mix" = some (.ref f) ∧ FnAt c f (st 18)
  on : ∃ f, c.mg "_law_on" = some (.ref f) ∧ FnAt c f (st 19)
  table : ∃ f, c.mg "_law_table_by" = some (.ref f) ∧ FnAt c f (st 20)
  setby : ∃ f, c.mg "_law_set_by" = some (.ref f) ∧ FnAt c f (st 21)
  clo : ∃ f, c.mg "_law_closure" = some (.ref f) ∧ FnAt c f (st 22)
  meets : ∃ f, c.mg "_law_meets" = some (.ref f) ∧ FnAt c f (st 23)
  drawn : ∃ f, c.mg "_law_drawn" = some (.ref f) ∧ FnAt c f (st 24)
  fewer : ∃ f, c.mg "_law_fewer" = some (.ref f) ∧ FnAt c f (st 25)
  len : c.mg "len" = none
  list : c.mg "list" = none
  range : c.mg "range" = none
  set : c.mg "set" = none
  sorted : c.mg "sorted" = none
  max : c.mg "max" = none
  all : c.mg "all" = none

theorem pow_at {n : Nat} (h : n ≤ 6) : ([.int 1, .int 2, .int 4, .int 8, .int 16, .int 32, .int 64] : List D)[((n : Int)).toNat]? = some (.int (2 ^ n)) := by
  match n, h with
  | 0, _ | 1, _ | 2, _ | 3, _ | 4, _ | 5, _ | 6, _ => rfl
theorem pow6 {n : Nat} (h : n ≤ 6) : (0 : Int) < 2 ^ n ∧ (2 : Int) ^ n ≤ 64 := by
  match n, h with
  | 0, _ | 1, _ | 2, _ | 3, _ | 4, _ | 5, _ | 6, _ => decide
theorem rows_norm (ns : List Int) : (rowsL ns).map norm = rowsL ns := by
  have : ∀ r ∈ rowsL ns, norm r = r := fun r hr => norm_sorted (sub_lt (rows_sub hr))
  rw [List.map_congr_left this, List.map_id']

def bad (k : Nat) (R : List (List Int)) (rules : List MRule) (x : Int) : Prop := rules.all (meetsB · (setBy k x)) ≠ decide (cloL k R (setBy k x) = setBy k x)

theorem law_ok {c : Cx} {f : Addr} {K : Frag} {C : Addr} (hf : FnAt c f (st 26)) (B : Lib9 c K C) {ns : List Int} (hl : ns.length ≤ 63) : Fn c 6 f [I ns] (.bool true) := by
  obtain ⟨H, ⟨fn, hn⟩, ⟨ft, ht⟩, ⟨fm, hm⟩, ⟨fc, hc⟩, ⟨fi, hi⟩, hsa, hpo, hmk, gC, ⟨t1, gmm⟩, ⟨t2, gmt⟩, ⟨fto, gto, hto⟩, ⟨fha, gha, hha⟩, ⟨fsu, gsu, hsu⟩, ⟨fkn, gkn, hkn⟩, ⟨ffe, gfe, hfe⟩, ⟨fce, gce, hce⟩, ⟨fmi, gmi, hmi⟩, ⟨fon, gon, hon⟩, ⟨fta, gta, hta⟩, ⟨fse, gse, hse⟩, ⟨fcl, gcl, hcl⟩, ⟨fme, gme, hme⟩, ⟨fdr, gdr, hdr⟩, ⟨ffw, gfw, hfw⟩, glen, glist, grange, gset, gsorted, gmax, gall⟩ := B
  obtain ⟨n, hn'⟩ : ∃ n : Nat, manyL ns = n := ⟨(manyL ns).toNat, by have := (many_lt ns).1; lia⟩
  have hn6 : n ≤ 6 := by have := (many_lt ns).2; lia
  have hR := rows_len ns
  have hrs : ∀ r ∈ rowsL ns, r.Sublist (upto n) := fun r hr => hn' ▸ rows_sub hr
  have hrn := rows_norm ns
  have T1 := table_by_ok hta hce hmi hon gce glen gmax gmi gon grange hl
  rw [hn'] at T1
  generalize rowsL ns = R at hR hrs hrn T1
  have I1 := init_ok (f := fi) (many := n) (R := R) H hn hsa hpo hto gto glen gsorted gset gmm gmt hi.at_ (by lia) (by lia) (by lia) (fun r hr => ⟨fun m hm => mem_upto.mp ((hrs r hr).subset hm), by have := sub_short hn6 (hrs r hr); lia⟩)
  rw [hrn] at I1
  have F1 := fewest_ok H hn ht hm hc hha hsu hkn gha glen grange gall gsorted gsu gkn hfe hn6 hR
  obtain ⟨hts, htl⟩ := told_short hn6 R
  have hkl : (toldL n R).length = (knotsL n R (sortedL n)).length := by unfold toldL; rw [List.length_map]
  generalize toldL n R = told at F1 hts htl hkl
  refine fn_of hf (binds1 fun _ _ _ _ _ _ _ _ => rfl) (fun qn cdv L => ?_)
  refine ex_seq (ex_assign2 (ev_call gta hta (.cons (ev_name rfl rfl) .nil rfl) (T1.up (by decide))) ?_)
  refine ex_seq (ex_assign_compM (g := PR) (h := PR) (l := told) (p := fun _ => true) (f := id) inj_PR (src_list (ev_call gfe hfe (.cons (ev_make H.cls hmk hi.find hi.fn gC (.cons (ev_name rfl rfl) (.cons (ev_name rfl rfl) .nil rfl) rfl) (InitF.up I1 (by decide))) .nil rfl) (F1.up (by decide)))) (fun C cl p hp => tests_nil) (fun C cl p hp _ => ?_) (by lia) ?_)
  · obtain ⟨h1, h2⟩ := hts p hp
    exact ev_tuple (.cons (ev_listOf glist boot_list (ev_itemT (ev_name rfl rfl) ev_int (by decide) (by decide) rfl) (by rw [List.length_map]; show p.1.length ≤ 16777216; lia)) (.cons (ev_listOf glist boot_list (ev_itemT (ev_name rfl rfl) ev_int (by decide) (by decide) rfl) (by rw [List.length_map]; show p.2.length ≤ 16777216; lia)) .nil rfl) rfl) (by show 2 ≤ 16777216; decide)
  rw [show D.list ((((told.filter fun _ => true).map id).map PR)) = RS told by rw [List.filter_eq_self.mpr (fun _ _ => rfl), List.map_id]]
  refine ex_seq (ex_if (tr_cmp (ev_name rfl rfl) (ev_list .nil (by simp)) fun X A s v u hA h1 h2 => cmp_Eq enc_RS (by decide) (a := told) (b := []) hA h1 h2) (fun hb => ?_) (fun hb => ex_nil ?_))
  · exact ex_seq (ex_return ev_bool rfl)
  have hne := of_decide_eq_false hb
  have DRAWN : ∀ k way, 0 ≤ k → Fn c 3 fdr [I ns, .int k, .int n, RR R, .int way] (PR (drawnL ns k n R way)) := fun k way hk => drawn_ok hdr hce hmi hse hcl gce glen gmax gmi gse grange gcl hl hk (by lia) (by lia) R hR
  refine ex_seq (ex_assign (ev_call gfw hfw (.cons (ev_name rfl rfl) (.cons (ev_name rfl rfl) (.cons (ev_name rfl rfl) (.cons (ev_name rfl rfl) .nil rfl) rfl) rfl) rfl) ((fewer_ok hfw hce hdr gce glen grange gdr hl (by lia) (by lia) R hR DRAWN hne (by lia)).up (by decide))) ?_)
  have hfl := fewer_len (ns := ns) (many := n) (R := R) hne
  have hfs := fewer_short (ns := ns) (many := n) (R := R) (by lia) hts
  generalize fewerL ns told n R = rules at hfl hfs
  have hrl : rules.length ≤ 64 := by lia
  obtain ⟨hp0, hp6⟩ := pow6 hn6
  obtain ⟨x₀, x0, x1, xbad⟩ := parts (k := n) (R := R) (rules := rules) (by lia) (by rw [← hkl]; exact hfl)
  refine ex_seq (ex_for (src_range (n := 2 ^ n) grange boot_range (ev_item (ev_list (.cons ev_int (.cons ev_int (.cons ev_int (.cons ev_int (.cons ev_int (.cons ev_int (.cons ev_int .nil rfl) rfl) rfl) rfl) rfl) rfl) rfl) (by simp)) (ev_name rfl rfl) (by lia) (pow_at hn6) (by simp)) ?_ ?_) ?_)
  · lia
  · lia
  refine turns_st (f := D.int) (σ := Unit) (fun _ => [("_law_rules", RS rules), ("_law_rows", RR R), ("_law_many", .int n)]) (fun _ => []) (fun l _ => ∃ x ∈ l, bad n R rules x) ?_ ?_ (upto (2 ^ n)) () _ ⟨x₀, mem_upto.mpr ⟨x0, x1⟩, xbad⟩ (has_of (hasAll_cons rfl (hasAll_cons rfl (hasAll_cons rfl hasAll_nil))))
  · rintro x rest _ ⟨x', hx', hbad⟩
    refine ex_seq (ex_assign (ev_call gse hse (.cons (ev_name rfl rfl) (.cons (ev_name rfl rfl) .nil rfl) rfl) ((set_by_ok (many := n) hse grange (by lia) (by lia)).up (by decide))) ?_)
    have hSl : (setBy n x).length ≤ 6 := filter_short (by lia) _
    have hbx : bad n R rules x ↔ rules.all (meetsB · (setBy n x)) ≠ decide (cloL n R (setBy n x) = setBy n x) := Iff.rfl
    generalize setBy n x = S at hSl hbx
    have em : decide ((rules.filter fun r => !meetsB r S) = []) = rules.all (meetsB · S) := by
      rw [Bool.eq_iff_iff, decide_eq_true_eq, List.filter_eq_nil_iff, List.all_eq_true]; simp
    refine ex_seq (ex_assign (d := .bool (rules.all (meetsB · S))) ?_ ?_)
    · rw [← em]
      refine ev_cmp (a := RS (rules.filter fun r => !meetsB r S)) ?_ (ev_list .nil (by simp)) fun X A s v u hA h1 h2 => cmp_Eq enc_RS (by decide) (a := rules.filter fun r => !meetsB r S) (b := []) hA h1 h2
      rw [show RS (rules.filter fun r => !meetsB r S) = .list (((rules.filter fun r => !meetsB r S).map id).map PR) by rw [List.map_id]]
      refine ev_compM (g := PR) (h := PR) inj_PR (src_list (ev_name rfl rfl)) (fun C cl r hr => tests_one (tr_not (tr_plain (ev_call gme hme (.cons (ev_name rfl rfl) (.cons (ev_name rfl rfl) .nil rfl) rfl) ((meets_ok hme r S (hfs r hr).1 (hfs r hr).2).up (by decide)))))) (fun C cl r hr _ => ev_name rfl rfl) (by lia)
    refine ex_seq (ex_if (tr_cmp (ev_name rfl rfl) (ev_cmp (ev_call gcl hcl (.cons (ev_name rfl rfl) (.cons (ev_name rfl rfl) (.cons (ev_name rfl rfl) .nil rfl) rfl) rfl) ((closure_ok hcl glen grange (by lia) (by lia) R hR S (by lia)).up (by decide))) (ev_name rfl rfl) fun X A s v u hA h1 h2 => cmp_Eq enc_I (by decide) (a := cloL n R S) (b := S) hA h1 h2)
      fun X A s v u hA h1 h2 => cmp_Ne enc_bool (by decide) (a := rules.all (meetsB · S)) (b := decide (cloL n R S = S)) hA h1 h2) (fun hb => ?_) (fun hb => ?_))
    · exact ex_seq (ex_return ev_bool rfl)
    · refine ex_nil (ex_nil ⟨(), ?_, has_of (hasAll_cons rfl (hasAll_cons rfl (hasAll_cons rfl hasAll_nil))), rfl⟩)
      rcases List.mem_cons.mp hx' with q | q
      · subst q
        exact absurd (by simpa using hb) (hbx.mp hbad)
      · exact ⟨x', q, hbad⟩
  · rintro _ ρ' ⟨x', hx', _⟩ _
    cases hx'
end Mine
end

/-! # L9h -/
section
open PySem PySem.W PyProof.Rows
set_option Elab.async false
set_option maxRecDepth 100000
set_option maxHeartbeats 8000000
namespace Mine
theorem fnAt_of {c : Cx} {f : Addr} {stt : Stmt} {o : Obj} {nm qn : Str} {doc pm : Value} {an : Option Addr} {cdv ct : Value} (ho : c.base.get? f = some o) (hd : o.data = .func (fnD stt nm qn doc pm an cdv ct)) (hcd : c.base.CodeRec cdv qn) : FnAt c f stt := ⟨o, nm, qn, doc, pm, an, cdv, ct, ho, hd, hcd⟩
theorem fnIn_of {c : Cx} {f : Addr} {x : Str} {stt : Stmt} {o : Obj} {nm qn : Str} {doc pm : Value} {an : Option Addr} {cdv ct : Value} (hm : c.mg x = some (.ref f)) (ho : c.base.get? f = some o) (hd : o.data = .func (fnD stt nm qn doc pm an cdv ct)) (hcd : c.base.CodeRec cdv qn) : ∃ f, c.mg x = some (.ref f) ∧ FnAt c f stt := ⟨f, hm, o, nm, qn, doc, pm, an, cdv, ct, ho, hd, hcd⟩
theorem methK_of {c : Cx} {K : Frag} {C f : Addr} {x : Str} {stt : Stmt} {o : Obj} {nm qn : Str} {doc pm : Value} {an : Option Addr} {cdv ct : Value} (h1 : findIn K (.ref C) x = some (some (.ref f))) (h2 : typeIn K (.ref f) = some (.type "function")) (ho : c.base.get? f = some o) (hd : o.data = .func (fnD stt nm qn doc pm an cdv ct)) (hcd : c.base.CodeRec cdv qn) : ∃ f, MethK c K C x stt f := ⟨f, h1, h2, o, nm, qn, doc, pm, an, cdv, ct, ho, hd, hcd⟩
open_top hd9 for PySem.Challenge.rw_uf060024_09
theorem law09 : PySem.Challenge.rw_uf060024_09.Holds := hd9 (by
  intro w s₀ s₁ mg mb G Y fa o pm cd doc dV kV ho hd hcd hD hmg hg args vals as hpre hlay hrd hwl hlo
  have KX := kIn_of Y
  refine Ground.open G ?_
  intro T B D TE TW
  wrow_args hpre hlay hrd hwl hlo
  clear hd hD hcd B D TE TW
  rename_i ns _ _ _ _ _ _ _ a vs _ hL _ _ _ hI _ hc _
  have hmg' : mg "law" = some (.ref fa) := hmg
  clear hmg
  obtain ⟨C, hC⟩ : ∃ C, mg "Table" = some (.ref C) ∧ Lib9 ⟨PySem.Challenge.rw_uf060024_09.row.prog, w, s₁.heap, mg, mb, T.g, T.b, T.nolimit, T.builtins⟩ _ C := by
    refine ⟨_, mg_of KX T.g rfl, ⟨⟨KX, rfl, rfl, rfl⟩, rfl, rfl⟩, methK_of rfl rfl (KX _ _ rfl) rfl (codeRec_of KX rfl), methK_of rfl rfl (KX _ _ rfl) rfl (codeRec_of KX rfl), methK_of rfl rfl (KX _ _ rfl) rfl (codeRec_of KX rfl), methK_of rfl rfl (KX _ _ rfl) rfl (codeRec_of KX rfl), methK_of rfl rfl (KX _ _ rfl) rfl (codeRec_of KX rfl), rfl, rfl, rfl, mg_of KX T.g rfl, ⟨_, mg_of KX T.g rfl⟩, ⟨_, mg_of KX T.g rfl⟩,
      fnIn_of (mg_of KX T.g rfl) (KX _ _ rfl) rfl (codeRec_of KX rfl), fnIn_of (mg_of KX T.g rfl) (KX _ _ rfl) rfl (codeRec_of KX rfl), fnIn_of (mg_of KX T.g rfl) (KX _ _ rfl) rfl (codeRec_of KX rfl), fnIn_of (mg_of KX T.g rfl) (KX _ _ rfl) rfl (codeRec_of KX rfl), fnIn_of (mg_of KX T.g rfl) (KX _ _ rfl) rfl (codeRec_of KX rfl), fnIn_of (mg_of KX T.g rfl) (KX _ _ rfl) rfl (codeRec_of KX rfl), fnIn_of (mg_of KX T.g rfl) (KX _ _ rfl) rfl (codeRec_of KX rfl), fnIn_of (mg_of KX T.g rfl) (KX _ _ rfl) rfl (codeRec_of KX rfl), fnIn_of (mg_of KX T.g rfl) (KX _ _ rfl) rfl (codeRec_of KX rfl), fnIn_of (mg_of KX T.g rfl) (KX _ _ rfl) rfl (codeRec_of KX rfl), fnIn_of (mg_of KX T.g rfl) (KX _ _ rfl) rfl (codeRec_of KX rfl), fnIn_of (mg_of KX T.g rfl) (KX _ _ rfl) rfl (codeRec_of KX rfl), fnIn_of (mg_of KX T.g rfl) (KX _ _ rfl) rfl (codeRec_of KX rfl), fnIn_of (mg_of KX T.g rfl) (KX _ _ rfl) rfl (codeRec_of KX rfl), mg_none_of KX T.g rfl, mg_none_of KX T.g rfl, mg_none_of KX T.g rfl, mg_none_of KX T.g rfl, mg_none_of KX T.g rfl, mg_none_of KX T.g rfl, mg_none_of KX T.g rfl⟩
  have hlaw : FnAt ⟨PySem.Challenge.rw_uf060024_09.row.prog, w, s₁.heap, mg, mb, T.g, T.b, T.nolimit, T.builtins⟩ fa (st 26) := by
    obtain ⟨f, e, hf⟩ : ∃ f, mg "law" = some (.ref f) ∧ FnAt ⟨PySem.Challenge.rw_uf060024_09.row.prog, w, s₁.heap, mg, mb, T.g, T.b, T.nolimit, T.builtins⟩ f (st 26) := ⟨_, mg_of KX T.g rfl, fnAt_of (KX _ _ rfl) rfl (codeRec_of KX rfl)⟩
    rw [hmg'] at e
    cases e
    exact hf
  have F := law_ok hlaw hC.2 (ns := ns) (by omega)
  obtain ⟨ol, hol, hcl, nl, hdl⟩ := hL
  refine wpAny_mono (F (fun _ => False) callerA s₁ [.ref a] ⟨rfl, by decide +kernel, by decide +kernel⟩ (Sub.refl _) (fun _ h => h.elim) (.cons (.list (fun h => h) hol hcl hdl (by simpa using ints_rd hI)) .nil) _) (fun v s' q => ?_) fun _ _ e => e
  obtain ⟨k, r⟩ := q
  cases r
  exact GoodW.toG ⟨.inl ⟨_, .bool true, [], rfl, fun _ => rfl, .bool _, by with_unfolding_all rfl, fun _ => ⟨List.nodup_nil, fun _ h => nomatch h⟩⟩, k.sub, k.same.os, k.same.gens.trans hg⟩)
end Mine
theorem PySem.Challenge.cw_uf060024_09_holds : PySem.Challenge.rw_uf060024_09.Holds := by
  exact Mine.law09
end
