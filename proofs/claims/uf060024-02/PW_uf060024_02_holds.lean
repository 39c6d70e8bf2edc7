import PyProof.Rows.All
import Wide.All
import OpenK.AllK
import Wide.FinOn
import PyProof.CompFree
import PyProof.Cells
import PyProof.ForAny
import PyProof.ForAppend
import PyProof.Rows.Many
import PyProof.Rows.IntRules
import PyProof.DefCall
import PyProof.Rows.Globals
import PyProof.P3In
import PyProof.ListCopy
import PyProof.ForRange
import PyProof.Rows.EqDataRows
import PyProof.Rows.TupSub
import PyProof.Rows.StrTemp
import PyProof.Rows.Nodes
import PyProof.Rows.SeqMore
import PyProof.Rows.RuleB_floordiv
import PyProof.Rows.RuleB_mul
import PyProof.Rows.RuleC_int
import PyProof.Rows.RuleU_int
import PyProof.Rows.RuleB_small
import PyProof.ListIndexNeg
import PyProof.Rows.SeqFit
import PyProof.Raises
import PyProof.SetScanFacts
import PyProof.Rows.SetFrom
import PyProof.Rows.SortShell
import PyProof.CollectIter
import PyProof.IsiPairs
import PyProof.WalkInts
import PyProof.ConsumeWalk
import PyProof.SliceMore
import PyProof.Dict
import PyProof.Rows.TupAssign
import PyProof.Fits
import OpenK.KMake
import OpenK.KCls
import OpenK.KMore
import PyProof.Rows.Catch
import PyProof.AssignAttr
import KE.KListMore
import PyProof.Rows.StrRules
import OpenK.KRaise
import KE.KTryMore
import Lean
import PySem.Challenge.RW_uf060024_02
set_option Elab.async false
/-! # M1 -/
section
set_option autoImplicit false
namespace Mine
open PySem PySem.Calls PyProof.Rows

theorem none_of {α : Type} {x : Option α} (f : ∀ o, x = some o → False) : x = none := by
  cases x with
  | none => rfl
  | some o => exact (f o rfl).elim
theorem no1 {α : Type} {x : Option α} {o : α} (n : x = none) (e : x = some o) : False := by rw [n] at e; cases e

inductive D where
  | none
  | bool (b : Bool)
  | int (i : Int)
  | str (s : Str)
  | tuple (ds : List D)
  | list (ds : List D)
  | raw (v : Value)
  | inst (C : Addr) (ns : List Str) (ds : List D)

mutual
inductive Rd (X : Addr → Prop) (h : Heap) : Value → D → Prop
  | none : Rd X h .none .none
  | bool (b) : Rd X h (.bool b) (.bool b)
  | int (i t) : Rd X h (.int i t) (.int i)
  | str (x t) : Rd X h (.str x t) (.str x)
  | raw (v) : Rd X h v (.raw v)
  | list {a o vs n ds} : ¬ X a → h.get? a = some o → o.cls = .type "list" → o.data = .seq vs n → RdAll X h vs.toList ds → Rd X h (.ref a) (.list ds)
  | tuple {a o vs n ds} : ¬ X a → h.get? a = some o → o.cls = .type "tuple" → o.data = .seq vs n → RdAll X h vs.toList ds → Rd X h (.ref a) (.tuple ds)
  | inst {a o da vs C ns ds} : ¬ X a → h.get? a = some o → o.cls = .ref C → o.data = .plain → o.dict = some da → ¬ X da → h.Ns da (fun x => (ns.zip vs).lookup x) → ns.length = vs.length → RdAll X h vs ds → Rd X h (.ref a) (.inst C ns ds)
inductive RdAll (X : Addr → Prop) (h : Heap) : List Value → List D → Prop
  | nil : RdAll X h [] []
  | cons {v vs d ds} : Rd X h v d → RdAll X h vs ds → RdAll X h (v :: vs) (d :: ds)
end

theorem Rd.mono {X X' : Addr → Prop} {h h' : Heap} (k : ∀ a o, ¬ X a → h.get? a = some o → ¬ X' a ∧ h'.get? a = some o) {v : Value} {d : D} (r : Rd X h v d) : Rd X' h' v d :=
  Rd.rec (motive_1 := fun v d _ => Rd X' h' v d) (motive_2 := fun vs ds _ => RdAll X' h' vs ds) .none .bool .int .str .raw (fun h1 h2 h3 h4 _ ih => .list (k _ _ h1 h2).1 (k _ _ h1 h2).2 h3 h4 ih) (fun h1 h2 h3 h4 _ ih => .tuple (k _ _ h1 h2).1 (k _ _ h1 h2).2 h3 h4 ih)
    (fun h1 h2 h3 h4 h5 h6 h7 h8 _ ih => .inst (k _ _ h1 h2).1 (k _ _ h1 h2).2 h3 h4 h5 (let ⟨o, _, _, e, _⟩ := h7; (k _ o h6 e).1) (let ⟨o, es, ep, e, r⟩ := h7; ⟨o, es, ep, (k _ o h6 e).2, r⟩) h8 ih) .nil (fun _ _ a b => .cons a b) r
theorem RdAll.mono {X X' : Addr → Prop} {h h' : Heap} (k : ∀ a o, ¬ X a → h.get? a = some o → ¬ X' a ∧ h'.get? a = some o) {vs : List Value} {ds : List D} (r : RdAll X h vs ds) : RdAll X' h' vs ds := by
  induction vs generalizing ds with
  | nil => cases r; exact .nil
  | cons v vs ih => cases r with | cons a r => exact .cons (a.mono k) (ih r)

theorem rd_int {X : Addr → Prop} {h : Heap} {v : Value} {i : Int} (r : Rd X h v (.int i)) : ∃ t, v = .int i t := by cases r; exact ⟨_, rfl⟩
theorem rdAll_cons {X : Addr → Prop} {h : Heap} {vs : List Value} {d : D} {ds : List D} (r : RdAll X h vs (d :: ds)) : ∃ v us, vs = v :: us ∧ Rd X h v d ∧ RdAll X h us ds := by
  cases r with | cons a r => exact ⟨_, _, rfl, a, r⟩
theorem rdAll_nil {X : Addr → Prop} {h : Heap} {vs : List Value} (r : RdAll X h vs []) : vs = [] := by cases r; rfl

def Sub (h h' : Heap) : Prop := ∀ a o, h.get? a = some o → h'.get? a = some o
theorem Sub.refl (h : Heap) : Sub h h := fun _ _ e => e
theorem Sub.trans {h h' h'' : Heap} (x : Sub h h') (y : Sub h' h'') : Sub h h'' := fun a o e => y a o (x a o e)
theorem Rd.keep {X : Addr → Prop} {h h' : Heap} {v : Value} {d : D} (r : Rd X h v d) (k : Sub h h') : Rd X h' v d := r.mono fun a o n e => ⟨n, k a o e⟩
theorem RdAll.keep {X : Addr → Prop} {h h' : Heap} {v : List Value} {d : List D} (r : RdAll X h v d) (k : Sub h h') : RdAll X h' v d := r.mono fun a o n e => ⟨n, k a o e⟩
theorem Rd.weak {X X' : Addr → Prop} {h : Heap} {v : Value} {d : D} (r : Rd X h v d) (k : ∀ a, X' a → X a) : Rd X' h v d := r.mono fun a _ n e => ⟨fun x => n (k a x), e⟩
theorem RdAll.weak {X X' : Addr → Prop} {h : Heap} {v : List Value} {d : List D} (r : RdAll X h v d) (k : ∀ a, X' a → X a) : RdAll X' h v d := r.mono fun a _ n e => ⟨fun x => n (k a x), e⟩

theorem RdAll.length {X : Addr → Prop} {h : Heap} {vs : List Value} {ds : List D} (r : RdAll X h vs ds) : vs.length = ds.length := by
  induction vs generalizing ds with
  | nil => cases r; rfl
  | cons v vs ih => cases r with | cons _ r => exact congrArg Nat.succ (ih r)
theorem RdAll.append {X : Addr → Prop} {h : Heap} {vs ws : List Value} {ds es : List D} (r : RdAll X h vs ds) (k : RdAll X h ws es) : RdAll X h (vs ++ ws) (ds ++ es) := by
  induction vs generalizing ds with
  | nil => cases r; exact k
  | cons v vs ih => cases r with | cons a r => exact .cons a (ih r)
theorem RdAll.get {X : Addr → Prop} {h : Heap} {vs : List Value} {ds : List D} (r : RdAll X h vs ds) {i : Nat} {d : D} (e : ds[i]? = some d) : ∃ v, vs[i]? = some v ∧ Rd X h v d := by
  induction vs generalizing ds i with
  | nil => cases r; cases e
  | cons v vs ih =>
    cases r with
    | cons a r =>
      cases i with
      | zero => cases e; exact ⟨v, rfl, a⟩
      | succ i => exact ih r e
set_option genInjectivity false in
set_option genSizeOf false in
/-- what stands below every call: the top's globals -/
structure Cx where
  prog : Program
  w : World
  base : Heap
  mg : Str → Option Value
  mb : Str → Option Value
  g : base.Ns mainGlobals mg
  b : base.Ns builtinsNs mb
  nolimit : base.NoLimit
  builtins : ∀ x : Str, x ≠ "__name__" → mb x = bootBuiltins x

structure Room (k : Nat) (A : Around) : Prop where
  handled : A.handled = none
  depth : A.depth + k < recursionLimit
  units : A.units + 8 * k + 200 < cLine

theorem Room.le {k j : Nat} {A : Around} (r : Room k A) (h : j ≤ k) : Room j A := ⟨r.handled, by have := r.depth; omega, by have := r.units; omega⟩
theorem Room.deeper {k : Nat} {A : Around} (r : Room (k + 1) A) (env : Env) : Room k (A.deeper env) := ⟨r.handled, by have := r.depth; show A.depth + 1 + k < _; omega, by have := r.units; show A.units + 3 + 8 * k + 200 < _; omega⟩

def Var (env : Env) (h : Heap) (x : Str) (v : Value) : Prop :=
  (env.kindOf x = some .local ∧ ∃ m, h.Ns env.locals m ∧ m x = some v) ∨ ((env.kindOf x = some .cell ∨ (env.kindOf x = some .free ∧ (x == ("__classdict__" : Str)) = false)) ∧ ∃ c, env.cells.lookup x = some c ∧ h.IsCell c (some v))

theorem Var.keep {env : Env} {h h' : Heap} {x : Str} {v : Value} (r : Var env h x v) (k : Sub h h') : Var env h' x v := by
  rcases r with ⟨a, m, n, e⟩ | ⟨a, c, e, i⟩
  · exact .inl ⟨a, m, n.keeps k, e⟩
  · exact .inr ⟨a, c, e, i.keeps k⟩

abbrev Vars := List (Str × D)
abbrev Mem := List (Addr × List D)

structure EnvOk (env : Env) : Prop where
  kind : env.scope.kind = .function
  globals : env.globals = mainGlobals
  builtins : env.builtins = builtinsNs
  has : ∀ n, env.kindOf n = some .cell ∨ env.kindOf n = some .free → ∃ a, env.cells.lookup n = some a

/-- a plain list object -/
def PL (h : Heap) (a : Addr) (vs : Array Value) : Prop := ∃ o, h.get? a = some o ∧ o.cls = .type "list" ∧ o.dict = none ∧ ∃ n, o.data = .seq vs n
theorem PL.isList {h : Heap} {a : Addr} {vs : Array Value} (x : PL h a vs) : h.IsList a vs := let ⟨o, e, c, _, n, d⟩ := x; ⟨o, e, c, n, d⟩
theorem PL.plain {h : Heap} {a : Addr} {vs : Array Value} (x : PL h a vs) : PlainL h a vs := let ⟨o, e, c, q, n, d⟩ := x; ⟨o, n, e, c, q, d⟩
theorem PL.of {h : Heap} {a : Addr} {vs : Array Value} (x : PlainL h a vs) : PL h a vs := let ⟨o, n, e, c, q, d⟩ := x; ⟨o, e, c, q, n, d⟩
theorem PL.extBut {h h' : Heap} {a b : Addr} {vs : Array Value} (x : PL h a vs) (hs : Heap.ExtBut b h h') (hab : a ≠ b) : PL h' a vs := let ⟨o, e, r⟩ := x; ⟨o, hs a o hab e, r⟩

/-- an own list that may still change -/
def ML (X : Addr → Prop) (h : Heap) (a : Addr) (ds : List D) : Prop := ∃ vs, PL h a vs ∧ RdAll X h vs.toList ds
theorem ML.keep {X : Addr → Prop} {h h' : Heap} {a : Addr} {ds : List D} (r : ML X h a ds) (k : Sub h h') : ML X h' a ds :=
  let ⟨vs, ⟨o, e, q⟩, y⟩ := r; ⟨vs, ⟨o, k a o e, q⟩, y.keep k⟩

/-- what an expression may read -/
structure Rc (c : Cx) (X : Addr → Prop) (env : Env) (ρ : Vars) (μ : Mem) (s : Shared) : Prop where
  ok : EnvOk env
  base : Sub c.base s.heap
  live : ∀ a, X a → ∃ o, s.heap.get? a = some o
  cel : ∀ n a, env.cells.lookup n = some a → X a ∧ c.base.get? a = none ∧ ∃ ov, s.heap.IsCell a ov
  apart : ∀ n n' a, env.cells.lookup n = some a → env.cells.lookup n' = some a → n = n'
  vars : ∀ x d, ρ.lookup x = some d → ∃ v, Var env s.heap x v ∧ Rd X s.heap v d
  mem : ∀ a ds, (a, ds) ∈ μ → X a ∧ ML X s.heap a ds

theorem Rc.keep {c : Cx} {X : Addr → Prop} {env : Env} {ρ : Vars} {μ : Mem} {s s' : Shared} (r : Rc c X env ρ μ s) (k : Sub s.heap s'.heap) : Rc c X env ρ μ s' :=
  ⟨r.ok, r.base.trans k, fun a x => let ⟨o, e⟩ := r.live a x; ⟨o, k a o e⟩, fun n a e => let ⟨x, y, ov, z⟩ := r.cel n a e; ⟨x, y, ov, z.keeps k⟩, r.apart, fun x d e => let ⟨v, a, b⟩ := r.vars x d e; ⟨v, a.keep k, b.keep k⟩, fun a ds e => ⟨(r.mem a ds e).1, (r.mem a ds e).2.keep k⟩⟩

/-- what no step here touches -/
structure Same (s s' : Shared) : Prop where
  os : s'.os = s.os
  gens : s'.gens = s.gens
theorem Same.refl (s : Shared) : Same s s := ⟨rfl, rfl⟩
theorem Same.trans {s s' s'' : Shared} (a : Same s s') (b : Same s' s'') : Same s s'' := ⟨b.os.trans a.os, b.gens.trans a.gens⟩

/-- the old heap is kept -/
structure Kp (s s' : Shared) : Prop where
  sub : Sub s.heap s'.heap
  same : Same s s'
theorem Kp.refl (s : Shared) : Kp s s := ⟨Sub.refl _, Same.refl s⟩
theorem Kp.tok (s : Shared) (t : Nat) : Kp s { s with toks := t } := ⟨Sub.refl _, ⟨rfl, rfl⟩⟩
theorem Kp.heap (s : Shared) (h : Heap) (t : Nat) (k : Sub s.heap h) : Kp s { s with heap := h, toks := t } := ⟨k, ⟨rfl, rfl⟩⟩
theorem Kp.push (s : Shared) (o : Obj) (t : Nat) : Kp s { s with heap := s.heap.push o, toks := t } := Kp.heap s _ t fun _ _ e => Heap.get?_push_of_some _ e
theorem Kp.trans {s s' s'' : Shared} (a : Kp s s') (b : Kp s' s'') : Kp s s'' := ⟨a.sub.trans b.sub, a.same.trans b.same⟩

/-- a pure tree: it gives a value that reads as d; the old heap is kept -/
def Gives (c : Cx) (X : Addr → Prop) (A : Around) (t : Sem Value) (d : D) (s : Shared) : Prop :=
  ∀ E, wpAny (model c.prog c.w) A t (fun v s' => Kp s s' ∧ Rd X s'.heap v d) E s

def Ev (c : Cx) (k : Nat) (env : Env) (ρ : Vars) (μ : Mem) (e : Expr) (d : D) : Prop :=
  ∀ X A s, Room k A → Rc c X env ρ μ s → Gives c X A (eval e env) d s

/-- a test -/
def Tr (c : Cx) (k : Nat) (env : Env) (ρ : Vars) (μ : Mem) (e : Expr) (b : Bool) : Prop :=
  ∀ X A s E, Room k A → Rc c X env ρ μ s → wpAny (model c.prog c.w) A (isTrue e env (eval e env)) (fun v s' => Kp s s' ∧ v = b) E s

section
variable {c : Cx} {k : Nat} {env : Env} {ρ : Vars} {μ : Mem}

theorem ev_name {x : Str} {pos : Pos} {d : D} (e : ρ.lookup x = some d) (hd : (x == ("__debug__" : Str)) = false) : Ev c k env ρ μ (.Name x pos) d := by
  intro X A s hA R E
  obtain ⟨v, hv, hr⟩ := R.vars x d e
  refine wpAny_Name ?_ hd
  rcases hv with ⟨a, m, n, q⟩ | ⟨a | a, c', q, i⟩
  · exact wpAny_loadName_local R.ok.kind a n q ⟨Kp.refl s, hr⟩
  · exact wpAny_loadName_cell R.ok.kind a q i ⟨Kp.refl s, hr⟩
  · exact wpAny_loadName_free R.ok.kind a.1 q i ⟨Kp.refl s, hr⟩ a.2

theorem ev_int {i : Int} {kk : Nat} {pos : Pos} : Ev c k env ρ μ (.Constant (.int i) kk pos) (.int i) := fun _ _ s _ _ _ =>
  wpAny_Constant_int ⟨Kp.tok s _, .int _ _⟩
theorem ev_str {x : Str} {kk : Nat} {pos : Pos} : Ev c k env ρ μ (.Constant (.str x) kk pos) (.str x) := fun _ _ s _ _ _ =>
  Constant_str ⟨Kp.tok s _, .str _ _⟩
theorem ev_bool {b : Bool} {kk : Nat} {pos : Pos} : Ev c k env ρ μ (.Constant (.bool b) kk pos) (.bool b) := fun _ _ s _ _ _ =>
  fun _ _ _ => ⟨Kp.refl s, .bool _⟩

theorem gives_bind {X : Addr → Prop} {A : Around} {s : Shared} {t : Sem Value} {d : D} {Q : Value → Shared → Prop} {E : Value → Shared → Prop} (g : Gives c X A t d s)
    (h : ∀ v s', Kp s s' → Rd X s'.heap v d → Q v s') : wpAny (model c.prog c.w) A t Q E s :=
  wpAny_mono (g E) (fun v s' q => h v s' q.1 q.2) fun _ _ e => e
theorem gives_after {X : Addr → Prop} {A : Around} {s s' : Shared} {t : Sem Value} {d : D} {E : Value → Shared → Prop} (g : Gives c X A t d s') (hk : Kp s s') :
    wpAny (model c.prog c.w) A t (fun v s'' => Kp s s'' ∧ Rd X s''.heap v d) E s' :=
  gives_bind g fun _ _ k r => ⟨hk.trans k, r⟩

/-- an operator of two values -/
theorem ev_bin {l r : Expr} {op : Operator} {pos : Pos} {a b d : D} (ha : Ev c k env ρ μ l a) (hb : Ev c k env ρ μ r b)
    (h : ∀ X A s v u, Room k A → Rd X s.heap v a → Rd X s.heap u b → (∀ a, X a → ∃ o, s.heap.get? a = some o) → Gives c X A (binaryOp op v u) d s) : Ev c k env ρ μ (.BinOp l op r pos) d := by
  intro X A s hA R E
  refine wpAny_BinOp (gives_bind (ha X A s hA R) fun v s₁ k₁ r₁ => ?_)
  have R₁ := R.keep k₁.sub
  refine gives_bind (hb X A s₁ hA R₁) fun u s₂ k₂ r₂ => ?_
  exact gives_after (h X A s₂ v u hA (r₁.keep k₂.sub) r₂ (R₁.keep k₂.sub).live) (k₁.trans k₂)

theorem ev_cmp {l r : Expr} {op : CmpOp} {pos : Pos} {a b d : D} (ha : Ev c k env ρ μ l a) (hb : Ev c k env ρ μ r b)
    (h : ∀ X A s v u, Room k A → Rd X s.heap v a → Rd X s.heap u b → Gives c X A (compareOp op v u) d s) (hm : behindInMarks op r = false := by with_unfolding_all rfl) : Ev c k env ρ μ (.Compare l [op] [r] pos) d := by
  intro X A s hA R E
  refine wpAny_Compare1 (gives_bind (ha X A s hA R) fun v s₁ k₁ r₁ => ?_) hm
  have R₁ := R.keep k₁.sub
  refine gives_bind (hb X A s₁ hA R₁) fun u s₂ k₂ r₂ => ?_
  exact gives_after (h X A s₂ v u hA (r₁.keep k₂.sub) r₂) (k₁.trans k₂)

theorem tr_cmp {l r : Expr} {op : CmpOp} {pos : Pos} {a b : D} {d : Bool} (ha : Ev c k env ρ μ l a) (hb : Ev c k env ρ μ r b)
    (h : ∀ X A s v u, Room k A → Rd X s.heap v a → Rd X s.heap u b → Gives c X A (compareOp op v u) (.bool d) s) (hm : behindInMarks op r = false := by with_unfolding_all rfl) : Tr c k env ρ μ (.Compare l [op] [r] pos) d := by
  intro X A s E hA R
  refine wpAny_isTrue_Compare1 (gives_bind (ha X A s hA R) fun v s₁ k₁ r₁ => ?_) hm
  have R₁ := R.keep k₁.sub
  refine gives_bind (hb X A s₁ hA R₁) fun u s₂ k₂ r₂ => ?_
  refine gives_bind (h X A s₂ v u hA (r₁.keep k₂.sub) r₂) fun x s₃ k₃ r₃ => ?_
  cases r₃
  exact wpAny_truthy_bool ⟨(k₁.trans k₂).trans k₃, rfl⟩
end

/-! ## ints -/
section
variable {c : Cx} {k : Nat} {env : Env} {ρ : Vars} {μ : Mem} {l r : Expr} {pos : Pos} {a b : Int}

theorem ev_add (ha : Ev c k env ρ μ l (.int a)) (hb : Ev c k env ρ μ r (.int b)) : Ev c k env ρ μ (.BinOp l .Add r pos) (.int (a + b)) :=
  ev_bin ha hb fun X A s v u _ h1 h2 _ E => by obtain ⟨_, rfl⟩ := rd_int h1; obtain ⟨_, rfl⟩ := rd_int h2; exact PyProof.Rows.add_int ⟨Kp.tok s _, .int _ _⟩
theorem ev_sub (ha : Ev c k env ρ μ l (.int a)) (hb : Ev c k env ρ μ r (.int b)) : Ev c k env ρ μ (.BinOp l .Sub r pos) (.int (a - b)) :=
  ev_bin ha hb fun X A s v u _ h1 h2 _ E => by obtain ⟨_, rfl⟩ := rd_int h1; obtain ⟨_, rfl⟩ := rd_int h2; exact PyProof.Rows.sub_int ⟨Kp.tok s _, .int _ _⟩
theorem ev_mod (ha : Ev c k env ρ μ l (.int a)) (hb : Ev c k env ρ μ r (.int b)) (h0 : b ≠ 0) : Ev c k env ρ μ (.BinOp l .Mod r pos) (.int (a.fmod b)) :=
  ev_bin ha hb fun X A s v u _ h1 h2 _ E => by obtain ⟨_, rfl⟩ := rd_int h1; obtain ⟨_, rfl⟩ := rd_int h2; exact PyProof.Rows.mod_int h0 ⟨Kp.tok s _, .int _ _⟩

theorem cmp_lt {X : Addr → Prop} {A : Around} {s : Shared} {v u : Value} (h1 : Rd X s.heap v (.int a)) (h2 : Rd X s.heap u (.int b)) : Gives c X A (compareOp .Lt v u) (.bool (decide (a < b))) s := fun E => by
  obtain ⟨_, rfl⟩ := rd_int h1; obtain ⟨_, rfl⟩ := rd_int h2; exact PyProof.Rows.lt_int ⟨Kp.refl s, .bool _⟩
theorem cmp_gt {X : Addr → Prop} {A : Around} {s : Shared} {v u : Value} (h1 : Rd X s.heap v (.int a)) (h2 : Rd X s.heap u (.int b)) : Gives c X A (compareOp .Gt v u) (.bool (decide (b < a))) s := fun E => by
  obtain ⟨_, rfl⟩ := rd_int h1; obtain ⟨_, rfl⟩ := rd_int h2; exact PyProof.Rows.gt_int ⟨Kp.refl s, .bool _⟩
theorem cmp_eq {X : Addr → Prop} {A : Around} {s : Shared} {v u : Value} (h1 : Rd X s.heap v (.int a)) (h2 : Rd X s.heap u (.int b)) : Gives c X A (compareOp .Eq v u) (.bool (a == b)) s := fun E => by
  obtain ⟨_, rfl⟩ := rd_int h1; obtain ⟨_, rfl⟩ := rd_int h2; exact PyProof.Rows.eq_int ⟨Kp.refl s, .bool _⟩
theorem cmp_ne {X : Addr → Prop} {A : Around} {s : Shared} {v u : Value} (h1 : Rd X s.heap v (.int a)) (h2 : Rd X s.heap u (.int b)) : Gives c X A (compareOp .NotEq v u) (.bool (a != b)) s := fun E => by
  obtain ⟨_, rfl⟩ := rd_int h1; obtain ⟨_, rfl⟩ := rd_int h2; exact PyProof.Rows.ne_int ⟨Kp.refl s, .bool _⟩
end
end Mine
end

/-! # M2 -/
section
set_option autoImplicit false
namespace Mine
open PySem PySem.Calls PyProof.Rows

def Mut (env : Env) (μ : Mem) (a : Addr) : Prop := a = env.locals ∨ (∃ n, env.cells.lookup n = some a) ∨ ∃ ds, (a, ds) ∈ μ
def XOf (X₀ : Addr → Prop) (env : Env) (μ : Mem) (a : Addr) : Prop := X₀ a ∨ Mut env μ a

structure St (c : Cx) (X₀ : Addr → Prop) (env : Env) (ρ : Vars) (μ : Mem) (s : Shared) : Prop where
  ok : EnvOk env
  base : Sub c.base s.heap
  own : ∀ a, Mut env μ a → c.base.get? a = none
  live : ∀ a, X₀ a → ∃ o, s.heap.get? a = some o
  ns : ∃ m, s.heap.Ns env.locals m
  cel : ∀ n a, env.cells.lookup n = some a → ∃ ov, s.heap.IsCell a ov
  apart : ∀ n n' a, env.cells.lookup n = some a → env.cells.lookup n' = some a → n = n'
  vars : ∀ x d, ρ.lookup x = some d → ∃ v, Var env s.heap x v ∧ Rd (XOf X₀ env μ) s.heap v d
  mem : ∀ a ds, (a, ds) ∈ μ → ML (XOf X₀ env μ) s.heap a ds
  nodup : (μ.map (·.1)).Nodup
  memX : ∀ a ds, (a, ds) ∈ μ → ¬ X₀ a

structure Go (env : Env) (μ : Mem) (s : Shared) (μ' : Mem) (s' : Shared) : Prop where
  same : Same s s'
  keep : ∀ a o, ¬ Mut env μ a → s.heap.get? a = some o → s'.heap.get? a = some o
  alive : ∀ a o, s.heap.get? a = some o → ∃ o', s'.heap.get? a = some o'
  grow : ∀ a ds, (a, ds) ∈ μ' → (∃ ds', (a, ds') ∈ μ) ∨ s.heap.get? a = none

theorem Go.refl (env : Env) (μ : Mem) (s : Shared) : Go env μ s μ s := ⟨Same.refl s, fun _ _ _ e => e, fun _ o e => ⟨o, e⟩, fun _ ds h => .inl ⟨ds, h⟩⟩
theorem Go.of_kp {env : Env} {μ : Mem} {s s' : Shared} (k : Kp s s') : Go env μ s μ s' := by
  exact ⟨k.same, fun a o _ q => k.sub a o q, fun a o q => ⟨o, k.sub a o q⟩, fun _ ds h => .inl ⟨ds, h⟩⟩
theorem Go.trans {env : Env} {μ μ₁ μ₂ : Mem} {s s₁ s₂ : Shared} (x : Go env μ s μ₁ s₁) (y : Go env μ₁ s₁ μ₂ s₂) : Go env μ s μ₂ s₂ := by
  refine ⟨x.same.trans y.same, fun a o n e => ?_, fun a o e => ?_, fun a ds m => ?_⟩
  · refine y.keep a o (fun m => n ?_) (x.keep a o n e)
    rcases m with m | m | ⟨ds, m⟩
    · exact .inl m
    · exact .inr (.inl m)
    · rcases x.grow a ds m with q | q
      · exact .inr (.inr q)
      · first | exact (no1 (e) q).elim | exact (no1 q (e)).elim | (rw [e] at q; cases q)
  · obtain ⟨o', e'⟩ := x.alive a o e
    exact y.alive a o' e'
  · rcases y.grow a ds m with ⟨ds', q⟩ | q
    · exact x.grow a ds' q
    · right
      refine none_of fun o h => ?_
      obtain ⟨o', e'⟩ := x.alive a o h; first | exact (no1 (q) e').elim | exact (no1 e' (q)).elim | (rw [q] at e'; cases e')

theorem St.rc {c : Cx} {X₀ : Addr → Prop} {env : Env} {ρ : Vars} {μ : Mem} {s : Shared} (S : St c X₀ env ρ μ s) : Rc c (XOf X₀ env μ) env ρ μ s := by
  refine ⟨S.ok, S.base, fun a h => ?_, fun n a h => ⟨.inr (.inr (.inl ⟨n, h⟩)), S.own a (.inr (.inl ⟨n, h⟩)), S.cel n a h⟩, S.apart, S.vars, fun a ds h => ⟨.inr (.inr (.inr ⟨ds, h⟩)), S.mem a ds h⟩⟩
  rcases h with h | h | ⟨n, h⟩ | ⟨ds, h⟩
  · exact S.live a h
  · obtain ⟨m, o, _, _, e, _⟩ := S.ns; exact ⟨o, h ▸ e⟩
  · obtain ⟨ov, o, e, _⟩ := S.cel n a h; exact ⟨o, e⟩
  · obtain ⟨vs, ⟨o, e, _⟩, _⟩ := S.mem a ds h; exact ⟨o, e⟩

/-- a step that keeps the old heap keeps the state -/
theorem St.kp {c : Cx} {X₀ : Addr → Prop} {env : Env} {ρ : Vars} {μ : Mem} {s s' : Shared} (S : St c X₀ env ρ μ s) (k : Kp s s') : St c X₀ env ρ μ s' := by
  have k' := k.sub
  refine ⟨S.ok, S.base.trans k', S.own, fun a h => ?_, ?_, fun n a h => ?_, S.apart, fun x d e => ?_, fun a ds m => (S.mem a ds m).keep k', S.nodup, S.memX⟩
  · exact (S.live a h).imp fun o e => k' a o e
  · exact (S.ns).imp fun m h => h.keeps k'
  · exact (S.cel n a h).imp fun ov h => h.keeps k'
  · obtain ⟨v, a, b⟩ := S.vars x d e; exact ⟨v, a.keep k', b.keep k'⟩

theorem St.weak {c : Cx} {X₀ : Addr → Prop} {env : Env} {ρ ρ' : Vars} {μ : Mem} {s : Shared} (S : St c X₀ env ρ μ s) (h : ∀ x d, ρ'.lookup x = some d → ρ.lookup x = some d) : St c X₀ env ρ' μ s :=
  { S with vars := fun x d e => S.vars x d (h x d e) }

def stor (env : Env) (x : Str) : Bool := match env.kindOf x with
  | some .local => true
  | some .cell => true
  | _ => false

theorem IsCell_ne_Ns {h : Heap} {a b : Addr} {v : Option Value} {m : Str → Option Value} (x : h.IsCell a v) (y : h.Ns b m) : a ≠ b := by
  rintro rfl
  obtain ⟨o, e, d⟩ := x
  obtain ⟨o', es, ep, e', d', _⟩ := y
  rw [e] at e'; cases e'; first | exact (no1 (d) d').elim | exact (no1 d' (d)).elim | (rw [d] at d'; cases d')
theorem IsList_ne_Ns {h : Heap} {a b : Addr} {v : Array Value} {m : Str → Option Value} (x : h.IsList a v) (y : h.Ns b m) : a ≠ b := by
  rintro rfl
  obtain ⟨o, e, _, n, d⟩ := x
  obtain ⟨o', es, ep, e', d', _⟩ := y
  rw [e] at e'; cases e'; first | exact (no1 (d) d').elim | exact (no1 d' (d)).elim | (rw [d] at d'; cases d')
theorem IsList_ne_Cell {h : Heap} {a b : Addr} {v : Array Value} {m : Option Value} (x : h.IsList a v) (y : h.IsCell b m) : a ≠ b := by
  rintro rfl
  obtain ⟨o, e, _, n, d⟩ := x
  obtain ⟨o', e', d'⟩ := y
  rw [e] at e'; cases e'; first | exact (no1 (d) d').elim | exact (no1 d' (d)).elim | (rw [d] at d'; cases d')

/-- a change at one own address keeps what reads off it -/
theorem Rd.but {X : Addr → Prop} {h h' : Heap} {a : Addr} {v : Value} {d : D} (r : Rd X h v d) (hX : X a) (hs : Heap.SameBut a h h') : Rd X h' v d :=
  r.mono fun b o n e => ⟨n, hs.extBut b o (fun q => n (q ▸ hX)) e⟩
theorem RdAll.but {X : Addr → Prop} {h h' : Heap} {a : Addr} {v : List Value} {d : List D} (r : RdAll X h v d) (hX : X a) (hs : Heap.SameBut a h h') : RdAll X h' v d :=
  r.mono fun b o n e => ⟨n, hs.extBut b o (fun q => n (q ▸ hX)) e⟩

theorem Go.but {env : Env} {μ : Mem} {s : Shared} {h' : Heap} {tk : Nat} {a : Addr} (hm : Mut env μ a) (hs : Heap.SameBut a s.heap h') (ha : ∃ o, h'.get? a = some o) : Go env μ s μ { s with heap := h', toks := tk } := by
  refine ⟨⟨rfl, rfl⟩, fun b o n e => hs.extBut b o (fun q => n (q ▸ hm)) e, fun b o e => ?_, fun _ ds h => .inl ⟨ds, h⟩⟩
  by_cases q : b = a
  · exact q ▸ ha
  · exact ⟨o, hs.extBut b o q e⟩

section
variable {c : Cx} {X₀ : Addr → Prop} {env : Env} {ρ : Vars} {μ : Mem} {s : Shared} {A : Around} {E : Value → Shared → Prop}

def addrOf (env : Env) (x : Str) : Addr := if env.kindOf x = some .local then env.locals else (env.cells.lookup x).getD 0

theorem st_store' {x : Str} {v : Value} {d : D} {Q : Unit → Shared → Prop} (S : St c X₀ env ρ μ s) (hx : stor env x = true) (r : Rd (XOf X₀ env μ) s.heap v d)
    (h : ∀ s', St c X₀ env ((x, d) :: ρ) μ s' → Go env μ s μ s' → Heap.SameBut (addrOf env x) s.heap s'.heap → Q () s') : wpAny (model c.prog c.w) A (storeName env x v) Q E s := by
  obtain ⟨m, hn⟩ := S.ns
  have hp : (env.scope.kind == .class || (env.scope.kind == .module && env.locals != env.globals)) = false := by rw [S.ok.kind]; rfl
  have look : ∀ (y : Str) (e : D), ((x, d) :: ρ).lookup y = some e → (y = x ∧ e = d) ∨ (y ≠ x ∧ ρ.lookup y = some e) := fun y e q => by
    rw [List.lookup_cons] at q
    by_cases hy : y = x
    · subst hy; simp at q; exact .inl ⟨rfl, q.symm⟩
    · have : (y == x) = false := by simpa using hy
      rw [this] at q; exact .inr ⟨hy, q⟩
  unfold stor at hx
  split at hx
  · rename_i hl
    refine wpAny_storeName_local hl hn (fun h' hn' hs' => ?_) hp
    have hX : XOf X₀ env μ env.locals := .inr (.inl rfl)
    refine h _ ⟨S.ok, fun a o e => hs'.extBut a o (fun q => ?_) (S.base a o e), S.own, fun a ha => ?_, ⟨_, hn'⟩, fun n a ha => ?_, S.apart, fun y e q => ?_, fun a ds hm => ?_, S.nodup, S.memX⟩ (Go.but (.inl rfl) hs' ?_) (by unfold addrOf; rw [if_pos hl]; exact hs')
    · have := S.own _ (.inl rfl); rw [q, this] at e; cases e
    · by_cases q : a = env.locals
      · obtain ⟨o, _, _, e, _⟩ := hn'; exact ⟨o, q ▸ e⟩
      · exact (S.live a ha).imp fun o e => hs'.extBut a o q e
    · exact (S.cel n a ha).imp fun ov hc => hc.sameBut hs' (IsCell_ne_Ns hc hn)
    · rcases look y e q with ⟨rfl, rfl⟩ | ⟨hy, q⟩
      · exact ⟨v, .inl ⟨hl, _, hn', by simp⟩, r.but hX hs'⟩
      · obtain ⟨u, hu, hr⟩ := S.vars y e q
        refine ⟨u, ?_, hr.but hX hs'⟩
        rcases hu with ⟨a, m', n', e'⟩ | ⟨a, c', e', i⟩
        · refine .inl ⟨a, _, hn', ?_⟩
          rw [if_neg hy]
          have : m' = m := by
            obtain ⟨o1, es1, ep1, g1, d1, _, f1⟩ := n'
            obtain ⟨o2, es2, ep2, g2, d2, _, f2⟩ := hn
            rw [g1] at g2; cases g2; first | exact (no1 (d1) d2).elim | exact (no1 d2 (d1)).elim | (rw [d1] at d2; cases d2)
            funext z; rw [← f1, ← f2]
          rw [← this]; exact e'
        · exact .inr ⟨a, c', e', i.sameBut hs' (IsCell_ne_Ns i hn)⟩
    · obtain ⟨vs, hl', hr⟩ := S.mem a ds hm
      exact ⟨vs, hl'.extBut hs'.extBut (IsList_ne_Ns hl'.isList hn), hr.but hX hs'⟩
    · obtain ⟨o, _, _, e, _⟩ := hn'; exact ⟨o, e⟩
  · rename_i hl
    obtain ⟨a, ha⟩ := S.ok.has x (.inl hl)
    obtain ⟨ov, hc⟩ := S.cel x a ha
    refine wpAny_storeName_cell S.ok.kind hl ha hc fun h' hc' hs' => ?_
    have hX : XOf X₀ env μ a := .inr (.inr (.inl ⟨x, ha⟩))
    have hg : Go env μ s μ { s with heap := h' } := Go.but (tk := s.toks) (.inr (.inl ⟨x, ha⟩)) hs' (let ⟨o, e, _⟩ := hc'; ⟨o, e⟩)
    refine h _ ⟨S.ok, fun b o e => hs'.extBut b o (fun q => ?_) (S.base b o e), S.own, fun b hb => ?_, ?_, fun n b hb => ?_, S.apart, fun y e q => ?_, fun b ds hm => ?_, S.nodup, S.memX⟩ hg (by unfold addrOf; rw [if_neg (by rw [hl]; decide), ha]; exact hs')
    · have := S.own _ (.inr (.inl ⟨x, ha⟩)); rw [q, this] at e; cases e
    · by_cases q : b = a
      · obtain ⟨o, e, _⟩ := hc'; exact ⟨o, q ▸ e⟩
      · exact (S.live b hb).imp fun o e => hs'.extBut b o q e
    · exact ⟨m, hn.sameBut hs' (IsCell_ne_Ns hc hn).symm⟩
    · by_cases q : b = a
      · exact ⟨_, q ▸ hc'⟩
      · exact (S.cel n b hb).imp fun ov' hb' => hb'.sameBut hs' q
    · rcases look y e q with ⟨rfl, rfl⟩ | ⟨hy, q⟩
      · exact ⟨v, .inr ⟨.inl hl, a, ha, hc'⟩, r.but hX hs'⟩
      · obtain ⟨u, hu, hr⟩ := S.vars y e q
        refine ⟨u, ?_, hr.but hX hs'⟩
        rcases hu with ⟨b, m', n', e'⟩ | ⟨b, c', e', i⟩
        · exact .inl ⟨b, m', n'.sameBut hs' (IsCell_ne_Ns hc n').symm, e'⟩
        · refine .inr ⟨b, c', e', i.sameBut hs' fun q' => hy (S.apart y x c' e' (q' ▸ ha))⟩
    · obtain ⟨vs, hl', hr⟩ := S.mem b ds hm
      exact ⟨vs, hl'.extBut hs'.extBut (IsList_ne_Cell hl'.isList hc), hr.but hX hs'⟩
  · cases hx
theorem st_store {x : Str} {v : Value} {d : D} {Q : Unit → Shared → Prop} (S : St c X₀ env ρ μ s) (hx : stor env x = true) (r : Rd (XOf X₀ env μ) s.heap v d)
    (h : ∀ s', St c X₀ env ((x, d) :: ρ) μ s' → Go env μ s μ s' → Q () s') : wpAny (model c.prog c.w) A (storeName env x v) Q E s :=
  st_store' S hx r fun s' a b _ => h s' a b
end

inductive Out where
  | next | brk | cont
  | ret (d : D)

def OutIs (X : Addr → Prop) (h : Heap) : Flow → Out → Prop
  | .next, .next => True
  | .brk, .brk => True
  | .cont, .cont => True
  | .ret v, .ret d => Rd X h v d
  | _, _ => False

def Post (c : Cx) (X₀ : Addr → Prop) (env : Env) (μ : Mem) (s : Shared) (Q : Out → Vars → Mem → Prop) (fl : Flow) (s' : Shared) : Prop :=
  ∃ o ρ' μ', OutIs (XOf X₀ env μ') s'.heap fl o ∧ St c X₀ env ρ' μ' s' ∧ Go env μ s μ' s' ∧ Q o ρ' μ'

def Ex (c : Cx) (k : Nat) (env : Env) (ρ : Vars) (μ : Mem) (ss : List Stmt) (Q : Out → Vars → Mem → Prop) : Prop :=
  ∀ X₀ A s E, Room k A → St c X₀ env ρ μ s → wpAny (model c.prog c.w) A (execs ss env) (Post c X₀ env μ s Q) E s
def Ex1 (c : Cx) (k : Nat) (env : Env) (ρ : Vars) (μ : Mem) (st : Stmt) (Q : Out → Vars → Mem → Prop) : Prop :=
  ∀ X₀ A s E, Room k A → St c X₀ env ρ μ s → wpAny (model c.prog c.w) A (exec st env) (Post c X₀ env μ s Q) E s

section
variable {c : Cx} {k : Nat} {env : Env} {ρ ρ' : Vars} {μ : Mem} {Q : Out → Vars → Mem → Prop}

theorem Post.after {X₀ : Addr → Prop} {μ μ₁ : Mem} {s s₁ : Shared} {Q : Out → Vars → Mem → Prop} {fl : Flow} {s' : Shared} (g : Go env μ s μ₁ s₁) (p : Post c X₀ env μ₁ s₁ Q fl s') : Post c X₀ env μ s Q fl s' :=
  let ⟨o, ρ', μ', a, b, g', q⟩ := p; ⟨o, ρ', μ', a, b, g.trans g', q⟩

theorem ex_nil (h : Q .next ρ μ) : Ex c k env ρ μ [] Q := fun _ _ s _ _ S => wpAny_execs_nil ⟨.next, ρ, μ, trivial, S, Go.refl env μ s, h⟩

theorem ex_seq {st : Stmt} {rest : List Stmt} (h : Ex1 c k env ρ μ st (fun o ρ' μ' => match o with | .next => Ex c k env ρ' μ' rest Q | o => Q o ρ' μ')) : Ex c k env ρ μ (st :: rest) Q := by
  intro X₀ A s E hA S
  refine wpAny_execs_cons (wpAny_mono (h X₀ A s E hA S) (fun fl s' p => ?_) fun _ _ e => e)
  obtain ⟨o, ρ', μ', a, b, g, q⟩ := p
  cases fl <;> cases o <;> first | exact a.elim | skip
  · exact wpAny_mono (q X₀ A s' E hA b) (fun fl' s'' p' => Post.after g p') fun _ _ e => e
  · exact ⟨.brk, ρ', μ', trivial, b, g, q⟩
  · exact ⟨.cont, ρ', μ', trivial, b, g, q⟩
  · exact ⟨.ret _, ρ', μ', a, b, g, q⟩

theorem ex_mono {ss : List Stmt} {Q' : Out → Vars → Mem → Prop} (h : Ex c k env ρ μ ss Q) (hq : ∀ o ρ' μ', Q o ρ' μ' → Q' o ρ' μ') : Ex c k env ρ μ ss Q' := fun X₀ A s E hA S =>
  wpAny_mono (h X₀ A s E hA S) (fun _ _ ⟨o, ρ', μ', a, b, g, q⟩ => ⟨o, ρ', μ', a, b, g, hq _ _ _ q⟩) fun _ _ e => e
theorem ex_weak {ss : List Stmt} (h : Ex c k env ρ' μ ss Q) (hw : ∀ x d, ρ'.lookup x = some d → ρ.lookup x = some d) : Ex c k env ρ μ ss Q := fun X₀ A s E hA S => h X₀ A s E hA (S.weak hw)

theorem ex_assign {x : Str} {px pos : Pos} {e : Expr} {d : D} (he : Ev c k env ρ μ e d) (h : Q .next ((x, d) :: ρ) μ) (hx : stor env x = true := by rfl)
    (hs : swapsWith e (some (.Name x px)) pos.line env = pure false := by rfl) : Ex1 c k env ρ μ (.Assign [.Name x px] e pos) Q := by
  intro X₀ A s E hA S
  refine wpAny_Assign_Name (gives_bind (he _ A s hA S.rc) fun v s₁ k₁ r₁ => ?_) hs
  exact st_store (S.kp k₁) hx r₁ fun s' S' g => ⟨.next, _, μ, trivial, S', (Go.of_kp k₁).trans g, h⟩

theorem ex_return {e : Expr} {pos : Pos} {d : D} (he : Ev c k env ρ μ e d) (h : Q (.ret d) ρ μ) : Ex1 c k env ρ μ (.Return (some e) pos) Q := by
  intro X₀ A s E hA S
  exact wpAny_Return_some (gives_bind (he _ A s hA S.rc) fun v s₁ k₁ r₁ => ⟨.ret d, ρ, μ, r₁, S.kp k₁, Go.of_kp k₁, h⟩)

theorem ex_if {test : Expr} {body orelse : List Stmt} {pos : Pos} {b : Bool} (ht : Tr c k env ρ μ test b) (h1 : b = true → Ex c k env ρ μ body Q) (h2 : b = false → Ex c k env ρ μ orelse Q) : Ex1 c k env ρ μ (.If test body orelse pos) Q := by
  intro X₀ A s E hA S
  refine wpAny_If (wpAny_mono (ht _ A s E hA S.rc) (fun v s₁ q => ?_) fun _ _ e => e)
  obtain ⟨k₁, rfl⟩ := q
  cases v with
  | true =>
    simp only [if_true]
    exact wpAny_mono (h1 rfl X₀ A s₁ E hA (S.kp k₁)) (fun _ _ p => Post.after (Go.of_kp k₁) p) fun _ _ e => e
  | false =>
    simp only [Bool.false_eq_true, if_false]
    exact wpAny_mono (h2 rfl X₀ A s₁ E hA (S.kp k₁)) (fun _ _ p => Post.after (Go.of_kp k₁) p) fun _ _ e => e

structure SrcOf (c : Cx) (X : Addr → Prop) (A : Around) (ds : List D) (s s₂ : Shared) (I : Addr) (fp wr : List Addr) (P : Nat → Value → Prop) (W : Nat → Heap → Prop) : Prop where
  walks : Walks c.prog c.w A I fp wr ds.length P W
  start : W 0 s₂.heap
  kp : Kp s s₂
  new : ∀ b ∈ wr, s.heap.get? b = none
  foot : ∀ b ∈ fp, (b ∈ wr ∨ ¬ X b) ∧ ∃ o, s₂.heap.get? b = some o
  wrLive : ∀ i h, W i h → ∀ b ∈ wr, ∃ o, h.get? b = some o
  item : ∀ i d v, ds[i]? = some d → P i v → Rd (fun a => X a ∨ a ∈ wr) s₂.heap v d
def SrcAt (c : Cx) (X : Addr → Prop) (A : Around) (ds : List D) (s : Shared) (it : Value) (s₂ : Shared) : Prop :=
  ∃ I fp wr P W, it = .ref I ∧ SrcOf c X A ds s s₂ I fp wr P W

/-- what a for or a comprehension goes over -/
def Src (c : Cx) (k : Nat) (env : Env) (ρ : Vars) (μ : Mem) (iter : Expr) (ds : List D) : Prop :=
  ∀ X A s E, Room k A → Rc c X env ρ μ s → wpAny (model c.prog c.w) A (eval iter env) (fun x s₁ => wpAny (model c.prog c.w) A (pyIter x) (fun it s₂ =>
    SrcAt c X A ds s it s₂) E s₁) E s

/-- the turns of a for, in order -/
def TurnsG (run : Vars → Mem → (Out → Vars → Mem → Prop) → Prop) (x : Str) (Q : Out → Vars → Mem → Prop) : List D → Vars → Mem → Prop
  | [], ρ, μ => Q .next ρ μ
  | d :: ds, ρ, μ => run ((x, d) :: ρ) μ (fun o ρ' μ' => match o with
      | .next | .cont => TurnsG run x Q ds ρ' μ'
      | .brk => Q .next ρ' μ'
      | .ret d => Q (.ret d) ρ' μ')
abbrev Turns (c : Cx) (k : Nat) (env : Env) (x : Str) (body : List Stmt) (Q : Out → Vars → Mem → Prop) : List D → Vars → Mem → Prop := TurnsG (fun ρ μ Q => Ex c k env ρ μ body Q) x Q
end
end Mine
end

/-! # M3 -/
section
set_option autoImplicit false
namespace Mine
open PySem PySem.Calls PyProof.Rows

/-- as Go, but for what the loop's own iterator writes -/
structure GoW (wr : List Addr) (env : Env) (μ : Mem) (s : Shared) (μ' : Mem) (s' : Shared) : Prop where
  same : Same s s'
  keep : ∀ a o, ¬ Mut env μ a → a ∉ wr → s.heap.get? a = some o → s'.heap.get? a = some o
  alive : ∀ a o, s.heap.get? a = some o → ∃ o', s'.heap.get? a = some o'
  grow : ∀ a ds, (a, ds) ∈ μ' → (∃ ds', (a, ds') ∈ μ) ∨ s.heap.get? a = none

theorem GoW.refl (wr : List Addr) (env : Env) (μ : Mem) (s : Shared) : GoW wr env μ s μ s := ⟨Same.refl s, fun _ _ _ _ e => e, fun _ o e => ⟨o, e⟩, fun _ ds h => .inl ⟨ds, h⟩⟩
theorem GoW.trans {wr : List Addr} {env : Env} {μ μ₁ μ₂ : Mem} {s s₁ s₂ : Shared} (x : GoW wr env μ s μ₁ s₁) (y : Go env μ₁ s₁ μ₂ s₂) : GoW wr env μ s μ₂ s₂ := by
  refine ⟨x.same.trans y.same, fun a o n w e => ?_, fun a o e => ?_, fun a ds m => ?_⟩
  · refine y.keep a o (fun m => n ?_) (x.keep a o n w e)
    rcases m with m | m | ⟨ds, m⟩
    · exact .inl m
    · exact .inr (.inl m)
    · rcases x.grow a ds m with q | q
      · exact .inr (.inr q)
      · first | exact (no1 (e) q).elim | exact (no1 q (e)).elim | (rw [e] at q; cases q)
  · obtain ⟨o', e'⟩ := x.alive a o e
    exact y.alive a o' e'
  · rcases y.grow a ds m with ⟨ds', q⟩ | q
    · exact x.grow a ds' q
    · right
      refine none_of fun o h => ?_
      obtain ⟨o', e'⟩ := x.alive a o h; first | exact (no1 (q) e').elim | exact (no1 e' (q)).elim | (rw [q] at e'; cases e')
/-- the iterator's own step -/
theorem GoW.step {wr : List Addr} {env : Env} {μ μ₁ : Mem} {s s₁ : Shared} {h' : Heap} {tk : Nat} (x : GoW wr env μ s μ₁ s₁) (k : ∀ b o, b ∉ wr → s₁.heap.get? b = some o → h'.get? b = some o)
    (l : ∀ b ∈ wr, ∃ o, h'.get? b = some o) : GoW wr env μ s μ₁ { s₁ with heap := h', toks := tk } := by
  refine ⟨x.same.trans ⟨rfl, rfl⟩, fun a o n w e => k a o w (x.keep a o n w e), fun a o e => ?_, x.grow⟩
  · obtain ⟨o', e'⟩ := x.alive a o e
    by_cases w : a ∈ wr
    · exact l a w
    · exact ⟨o', k a o' w e'⟩
/-- seen from ahead of the iterator -/
theorem GoW.go {wr : List Addr} {env : Env} {μ μ₁ : Mem} {s s₁ s₂ : Shared} (k : Kp s s₁) (n : ∀ b ∈ wr, s.heap.get? b = none) (x : GoW wr env μ s₁ μ₁ s₂) : Go env μ s μ₁ s₂ := by
  have k' := k.sub
  refine ⟨k.same.trans x.same, fun a o m e => x.keep a o m (fun w => ?_) (k' a o e), fun a o e => x.alive a o (k' a o e), fun a ds m => ?_⟩
  · first | exact (no1 (n a w) e).elim | exact (no1 e (n a w)).elim | (rw [n a w] at e; cases e)
  · refine (x.grow a ds m).imp id fun q => ?_
    refine none_of fun o h => ?_
    first | exact (no1 (k' a o h) q).elim | exact (no1 q (k' a o h)).elim | (rw [k' a o h] at q; cases q)

/-- other addresses for the caller's -/
theorem St.reX {c : Cx} {X₀ X₁ : Addr → Prop} {env : Env} {ρ : Vars} {μ : Mem} {s : Shared} (S : St c X₁ env ρ μ s) (h : ∀ a, X₀ a → X₁ a) : St c X₀ env ρ μ s := by
  have hx : ∀ a, XOf X₀ env μ a → XOf X₁ env μ a := fun a q => q.imp (h a) id
  refine { S with live := fun a q => S.live a (h a q), vars := fun x d e => ?_, mem := fun a ds m => ?_, memX := fun a ds m q => S.memX a ds m (h a q) }
  · obtain ⟨v, a, b⟩ := S.vars x d e; exact ⟨v, a, b.weak hx⟩
  · obtain ⟨vs, a, b⟩ := S.mem a ds m; exact ⟨vs, a, b.weak hx⟩
/-- what is new is no one's -/
theorem St.addX {c : Cx} {X₀ : Addr → Prop} {env : Env} {ρ : Vars} {μ : Mem} {s s' : Shared} {wr : List Addr} (S : St c X₀ env ρ μ s) (k : Kp s s') (n : ∀ b ∈ wr, s.heap.get? b = none) (l : ∀ b ∈ wr, ∃ o, s'.heap.get? b = some o) :
    St c (fun a => X₀ a ∨ a ∈ wr) env ρ μ s' := by
  have S' := S.kp k
  have k' := k.sub
  have hx : ∀ a o, ¬ XOf X₀ env μ a → s.heap.get? a = some o → ¬ XOf (fun a => X₀ a ∨ a ∈ wr) env μ a ∧ s'.heap.get? a = some o := fun a o q e => by
    refine ⟨?_, k' a o e⟩
    rintro ((y | y) | y)
    · exact q (.inl y)
    · first | exact (no1 (n a y) e).elim | exact (no1 e (n a y)).elim | (rw [n a y] at e; cases e)
    · exact q (.inr y)
  refine { S' with live := fun a q => ?_, vars := fun x d e => ?_, mem := fun a ds m => ?_, memX := fun a ds m q => ?_ }
  · rcases q with q | q
    · exact S'.live a q
    · exact l a q
  · obtain ⟨v, a, b⟩ := S.vars x d e; exact ⟨v, a.keep k', b.mono hx⟩
  · obtain ⟨vs, ⟨o, e, y⟩, b⟩ := S.mem a ds m; exact ⟨vs, ⟨o, k' a o e, y⟩, b.mono hx⟩
  · rcases q with q | q
    · exact S.memX a ds m q
    · obtain ⟨o, e⟩ := S.rc.live a (.inr (.inr (.inr ⟨ds, m⟩))); first | exact (no1 (n a q) e).elim | exact (no1 e (n a q)).elim | (rw [n a q] at e; cases e)
/-- a change within the caller's addresses -/
theorem St.inX {c : Cx} {X₀ : Addr → Prop} {env : Env} {ρ : Vars} {μ : Mem} {s s' : Shared} {wr : List Addr} (S : St c X₀ env ρ μ s) (k : ∀ b o, b ∉ wr → s.heap.get? b = some o → s'.heap.get? b = some o) (hw : ∀ b ∈ wr, X₀ b)
    (l : ∀ b ∈ wr, ∃ o, s'.heap.get? b = some o) (hm : ∀ b ∈ wr, ¬ Mut env μ b) (hb : ∀ b ∈ wr, c.base.get? b = none) : St c X₀ env ρ μ s' := by
  have hx : ∀ a o, ¬ XOf X₀ env μ a → s.heap.get? a = some o → ¬ XOf X₀ env μ a ∧ s'.heap.get? a = some o := fun a o q e => ⟨q, k a o (fun w => q (.inl (hw a w))) e⟩
  have hM : ∀ a o, Mut env μ a → s.heap.get? a = some o → s'.heap.get? a = some o := fun a o m e => k a o (fun w => hm a w m) e
  refine { S with base := fun a o e => k a o (fun w => ?_) (S.base a o e), live := fun a q => ?_, ns := ?_, cel := fun n a h => ?_, vars := fun x d e => ?_, mem := fun a ds m => ?_ }
  · first | exact (no1 (hb a w) e).elim | exact (no1 e (hb a w)).elim | (rw [hb a w] at e; cases e)
  · by_cases w : a ∈ wr
    · exact l a w
    · exact (S.live a q).imp fun o e => k a o w e
  · obtain ⟨m, o, es, ep, e, r⟩ := S.ns
    exact ⟨m, o, es, ep, hM _ _ (.inl rfl) e, r⟩
  · obtain ⟨ov, o, e, r⟩ := S.cel n a h
    exact ⟨ov, o, hM _ _ (.inr (.inl ⟨n, h⟩)) e, r⟩
  · obtain ⟨v, a, b⟩ := S.vars x d e
    refine ⟨v, ?_, b.mono hx⟩
    rcases a with ⟨a, m, ⟨o, es, ep, e', r⟩, q⟩ | ⟨a, c', q, o, e', r⟩
    · exact .inl ⟨a, m, ⟨o, es, ep, hM _ _ (.inl rfl) e', r⟩, q⟩
    · exact .inr ⟨a, c', q, o, hM _ _ (.inr (.inl ⟨x, q⟩)) e', r⟩
  · obtain ⟨vs, ⟨o, e, y⟩, b⟩ := S.mem a ds m
    exact ⟨vs, ⟨o, hM _ _ (.inr (.inr ⟨ds, m⟩)) e, y⟩, b.mono hx⟩

theorem St.live' {c : Cx} {X₀ : Addr → Prop} {env : Env} {ρ : Vars} {μ : Mem} {s : Shared} (S : St c X₀ env ρ μ s) {a : Addr} (h : Mut env μ a) : ∃ o, s.heap.get? a = some o := S.rc.live a (.inr h)

/-- what the loop's iterator has written is let go -/
theorem St.outX {c : Cx} {X₀ : Addr → Prop} {env : Env} {ρ : Vars} {μ : Mem} {s s' : Shared} {wr : List Addr} (S : St c (fun a => X₀ a ∨ a ∈ wr) env ρ μ s) (k : ∀ b o, b ∉ wr → s.heap.get? b = some o → s'.heap.get? b = some o) (hX : ∀ b ∈ wr, ¬ X₀ b)
    (hm : ∀ b ∈ wr, ¬ Mut env μ b) (hb : ∀ b ∈ wr, c.base.get? b = none) : St c X₀ env ρ μ s' := by
  have hx : ∀ a o, ¬ XOf (fun a => X₀ a ∨ a ∈ wr) env μ a → s.heap.get? a = some o → ¬ XOf X₀ env μ a ∧ s'.heap.get? a = some o := fun a o q e => ⟨fun y => q (y.imp .inl id), k a o (fun w => q (.inl (.inr w))) e⟩
  have hM : ∀ a o, Mut env μ a → s.heap.get? a = some o → s'.heap.get? a = some o := fun a o m e => k a o (fun w => hm a w m) e
  refine { S with base := fun a o e => k a o (fun w => no1 (hb a w) e) (S.base a o e), live := fun a q => (S.live a (.inl q)).imp fun o e => k a o (fun w => hX a w q) e, ns := ?_, cel := fun n a h => ?_, vars := fun x d e => ?_, mem := fun a ds m => ?_, memX := fun a ds m q => S.memX a ds m (.inl q) }
  · obtain ⟨m, o, es, ep, e, r⟩ := S.ns
    exact ⟨m, o, es, ep, hM _ _ (.inl rfl) e, r⟩
  · obtain ⟨ov, o, e, r⟩ := S.cel n a h
    exact ⟨ov, o, hM _ _ (.inr (.inl ⟨n, h⟩)) e, r⟩
  · obtain ⟨v, a, b⟩ := S.vars x d e
    refine ⟨v, ?_, b.mono hx⟩
    rcases a with ⟨a, m, ⟨o, es, ep, e', r⟩, q⟩ | ⟨a, c', q, o, e', r⟩
    · exact .inl ⟨a, m, ⟨o, es, ep, hM _ _ (.inl rfl) e', r⟩, q⟩
    · exact .inr ⟨a, c', q, o, hM _ _ (.inr (.inl ⟨x, q⟩)) e', r⟩
  · obtain ⟨vs, ⟨o, e, y⟩, b⟩ := S.mem a ds m
    exact ⟨vs, ⟨o, hM _ _ (.inr (.inr ⟨ds, m⟩)) e, y⟩, b.mono hx⟩

/-- a read ahead of the loop's turns -/
theorem GoW.rd {X₀ : Addr → Prop} {wr : List Addr} {env : Env} {μ μ' : Mem} {s s' : Shared} {v : Value} {d : D} (g : GoW wr env μ s μ' s') (r : Rd (fun a => XOf X₀ env μ a ∨ a ∈ wr) s.heap v d) : Rd (XOf (fun a => X₀ a ∨ a ∈ wr) env μ') s'.heap v d :=
  r.mono fun a o n e => by
    have nM : ¬ Mut env μ a := fun m => n (.inl (.inr m))
    have nw : a ∉ wr := fun w => n (.inr w)
    refine ⟨?_, g.keep a o nM nw e⟩
    rintro ((y | y) | (y | y | ⟨ds, y⟩))
    · exact n (.inl (.inl y))
    · exact nw y
    · exact nM (.inl y)
    · exact nM (.inr (.inl y))
    · exact (g.grow a ds y).elim (fun q => nM (.inr (.inr q))) fun q => no1 q e

section
variable {c : Cx} {k : Nat} {env : Env} {ρ ρ' : Vars} {μ : Mem} {Q : Out → Vars → Mem → Prop}

theorem Go.done {s s' : Shared} {μ' : Mem} {wr : List Addr} {h' : Heap} {tk : Nat} (g : Go env μ s μ' s') (n : ∀ b ∈ wr, s.heap.get? b = none) (hk : ∀ b o, b ∉ wr → s'.heap.get? b = some o → h'.get? b = some o) : Go env μ s μ' { s' with heap := h', toks := tk } :=
  ⟨g.same.trans ⟨rfl, rfl⟩, fun a o m e => hk a o (fun w => no1 (n a w) e) (g.keep a o m e), fun a o e => (g.alive a o e).imp fun o' e' => hk a o' (fun w => no1 (n a w) e) e', g.grow⟩
section
variable {X₀ : Addr → Prop} {A : Around} {ds : List D} {s s₂ : Shared} {I : Addr} {fp wr : List Addr} {P : Nat → Value → Prop} {W : Nat → Heap → Prop}
theorem SrcOf.foot_mut (O : SrcOf c (XOf X₀ env μ) A ds s s₂ I fp wr P W) (S : St c X₀ env ρ μ s) : ∀ μ' s', GoW wr env μ s₂ μ' s' → ∀ b ∈ fp, ¬ Mut env μ' b := by
  intro μ' s' g b hb m
  obtain ⟨f1, o, f2⟩ := O.foot b hb
  have notM : ¬ Mut env μ b := fun m' => f1.elim (fun w => let ⟨o, e⟩ := S.live' m'; no1 (O.new b w) e) fun w => w (.inr m')
  rcases m with m | m | ⟨ds, m⟩
  · exact notM (.inl m)
  · exact notM (.inr (.inl m))
  · exact (g.grow b ds m).elim (fun q => notM (.inr (.inr q))) fun q => no1 q f2
theorem SrcOf.new_base {X : Addr → Prop} (O : SrcOf c X A ds s s₂ I fp wr P W) (hb : Sub c.base s.heap) : ∀ b ∈ wr, c.base.get? b = none := fun b h => none_of fun o e => no1 (O.new b h) (hb b o e)
theorem SrcOf.new_X {X : Addr → Prop} (O : SrcOf c X A ds s s₂ I fp wr P W) (hl : ∀ a, X₀ a → ∃ o, s.heap.get? a = some o) : ∀ b ∈ wr, ¬ X₀ b := fun b h x => let ⟨o, e⟩ := hl b x; no1 (O.new b h) e
end

/-- where a for stands ahead of turn i -/
structure ForAt (c : Cx) (X₀ : Addr → Prop) (env : Env) (μ : Mem) (s₂ : Shared) (wr : List Addr) (W : Nat → Heap → Prop) (T : List D → Vars → Mem → Prop) (ds : List D) (i : Nat) (ρ' : Vars) (μ' : Mem) (s' : Shared) : Prop where
  le : i ≤ ds.length
  w : W i s'.heap
  st : St c (fun a => X₀ a ∨ a ∈ wr) env ρ' μ' s'
  go : GoW wr env μ s₂ μ' s'
  turns : T (ds.drop i) ρ' μ'

section
variable {run : Vars → Mem → (Out → Vars → Mem → Prop) → Prop} {x : Str} {px : Pos} {body : List Stmt} {ds : List D} {X₀ : Addr → Prop} {A : Around} {s s₂ : Shared} {I : Addr} {fp wr : List Addr} {P : Nat → Value → Prop} {W : Nat → Heap → Prop} {R : Result → Shared → Prop}

theorem for_item {i : Nat} {μ' : Mem} {s' : Shared} {v : Value} {h' : Heap} {tk : Nat} {Qf : Flow → Shared → Prop} {Eb : Value → Shared → Prop} (O : SrcOf c (XOf X₀ env μ) A ds s s₂ I fp wr P W) (hwM : ∀ μ' s', GoW wr env μ s₂ μ' s' → ∀ b ∈ fp, ¬ Mut env μ' b) (hbase : ∀ b ∈ wr, c.base.get? b = none) (hx : stor env x = true)
    (hrun : ∀ ρ' μ' Q X₁ s₄, run ρ' μ' Q → St c X₁ env ρ' μ' s₄ → GoW wr env μ s₂ μ' s₄ → wpAny (model c.prog c.w) A (execs body env) (Post c X₁ env μ' s₄ Q) Eb s₄)
    (F : ForAt c X₀ env μ s₂ wr W (TurnsG run x Q) ds i ρ' μ' s') (hlt : i < ds.length) (hP : P i v) (hW' : W (i + 1) h') (hk : ∀ b o, b ∉ wr → s'.heap.get? b = some o → h'.get? b = some o)
    (hq : ∀ fl s₅ o ρ₅ μ₅, OutIs (XOf (fun a => X₀ a ∨ a ∈ wr) env μ₅) s₅.heap fl o → W (i + 1) s₅.heap → St c (fun a => X₀ a ∨ a ∈ wr) env ρ₅ μ₅ s₅ → GoW wr env μ s₂ μ₅ s₅ → (match o with
      | .next | .cont => TurnsG run x Q (ds.drop (i + 1)) ρ₅ μ₅
      | .brk => Q .next ρ₅ μ₅
      | .ret d => Q (.ret d) ρ₅ μ₅) → Qf fl s₅) :
    wpAny (model c.prog c.w) A (assign (.Name x px) env v) (fun _ s₄ => wpAny (model c.prog c.w) A (execs body env) Qf Eb s₄) Eb { s' with heap := h', toks := tk } := by
  have hsub := O.walks.sub
  have hwl := O.wrLive _ _ hW'
  have S₃ : St c (fun a => X₀ a ∨ a ∈ wr) env ρ' μ' { s' with heap := h', toks := tk } := F.st.inX (s' := { s' with heap := h', toks := tk }) hk (fun b hb => .inr hb) hwl (fun b hb => hwM μ' s' F.go b (hsub b hb)) hbase
  have g₃ : GoW wr env μ s₂ μ' { s' with heap := h', toks := tk } := F.go.step hk hwl
  refine wpAny_assign_Name (st_store S₃ hx (g₃.rd (O.item i _ v (List.getElem?_eq_getElem hlt) hP)) fun s₄ S₄ g₄ => ?_)
  have g₅ := g₃.trans g₄
  have hT := F.turns
  rw [List.drop_eq_getElem_cons hlt] at hT
  refine wpAny_mono (hrun _ _ _ _ s₄ hT S₄ g₅) (fun fl s₅ p => ?_) fun _ _ e => e
  obtain ⟨o, ρ₅, μ₅, a, S₅, g₆, q⟩ := p
  exact hq fl s₅ o ρ₅ μ₅ a (O.walks.frame _ _ _ (O.walks.frame _ _ _ hW' fun b hb o e => g₄.keep b o (hwM _ _ g₃ b hb) e) fun b hb o e => g₆.keep b o (hwM _ _ g₅ b hb) e) S₅ (g₅.trans g₆) q

theorem for_loop (O : SrcOf c (XOf X₀ env μ) A ds s s₂ I fp wr P W) (S₂ : St c (fun a => X₀ a ∨ a ∈ wr) env ρ μ s₂) (hwM : ∀ μ' s', GoW wr env μ s₂ μ' s' → ∀ b ∈ fp, ¬ Mut env μ' b) (hbase : ∀ b ∈ wr, c.base.get? b = none) (hwX : ∀ b ∈ wr, ¬ X₀ b) (hx : stor env x = true)
    (hrun : ∀ ρ' μ' Q X₁ s₄, run ρ' μ' Q → St c X₁ env ρ' μ' s₄ → GoW wr env μ s₂ μ' s₄ → wpAny (model c.prog c.w) A (execs body env) (Post c X₁ env μ' s₄ Q) (notedBy (model c.prog c.w) A env fun e s' => R (.error e) s') s₄)
    (h : TurnsG run x Q ds ρ μ) (hR : ∀ fl s' o ρ' μ', OutIs (XOf X₀ env μ') s'.heap fl o → St c X₀ env ρ' μ' s' → Go env μ s μ' s' → Q o ρ' μ' → R (.ok fl) s') : codeAny (model c.prog c.w) A (.forLoop (.Name x px) (.ref I) body [] env) R s₂ := by
  refine codeAny_forLoop (fun n s' => ∃ i ρ' μ', n = ds.length + 1 - i ∧ ForAt c X₀ env μ s₂ wr W (TurnsG run x Q) ds i ρ' μ' s') ?_ (ds.length + 1) ⟨0, ρ, μ, rfl, Nat.zero_le _, O.start, S₂, GoW.refl wr env μ s₂, by simpa using h⟩
  rintro n s' ⟨i, ρ', μ', rfl, F⟩
  by_cases hlt : i < ds.length
  · refine O.walks.item i s' _ _ hlt F.w fun v h' tk hP hW' hk => for_item O hwM hbase hx hrun F hlt hP hW' hk ?_
    intro fl s₅ o ρ₅ μ₅ a w₅ S₅ g₅ q
    have S₆ : St c X₀ env ρ₅ μ₅ s₅ := S₅.reX fun a h => .inl h
    cases fl <;> cases o <;> first | exact a.elim | skip
    · exact ⟨_, Nat.sub_lt_sub_left (Nat.lt_succ_of_lt hlt) (Nat.lt_succ_self i), i + 1, ρ₅, μ₅, rfl, hlt, w₅, S₅, g₅, q⟩
    · exact hR _ _ .next ρ₅ μ₅ trivial S₆ (g₅.go O.kp O.new) q
    · exact ⟨_, Nat.sub_lt_sub_left (Nat.lt_succ_of_lt hlt) (Nat.lt_succ_self i), i + 1, ρ₅, μ₅, rfl, hlt, w₅, S₅, g₅, q⟩
    · exact hR _ _ (.ret _) ρ₅ μ₅ (Rd.weak a fun a h => h.imp .inl id) S₆ (g₅.go O.kp O.new) q
  · have hin : i = ds.length := Nat.le_antisymm F.le (Nat.not_lt.mp hlt)
    refine O.walks.done s' _ _ (hin ▸ F.w) fun h' tk hk => wpAny_execs_nil ?_
    have hT := F.turns
    rw [hin, List.drop_length] at hT
    exact hR _ _ .next ρ' μ' trivial (F.st.outX hk hwX (fun b hb => hwM μ' s' F.go b (O.walks.sub b hb)) hbase) ((F.go.go O.kp O.new).done O.new hk) hT
end

theorem ex_for {x : Str} {px pos : Pos} {iter : Expr} {body : List Stmt} {ds : List D} (hi : Src c k env ρ μ iter ds) (h : Turns c k env x body Q ds ρ μ) (hx : stor env x = true := by rfl)
    (hs : ∀ x, foldedSetIterable iter env x = pure x := by intro _; rfl) : Ex1 c k env ρ μ (.For (.Name x px) iter body [] pos) Q := by
  intro X₀ A s E hA S
  refine wpAny_For (wpAny_mono (hi _ A s E hA S.rc) (fun v s₁ h₁ => wpAny_mono h₁ (fun it s₂ h₂ => ?_) fun _ _ e => e) fun _ _ e => e) hs
  obtain ⟨I, fp, wr, P, W, rfl, O⟩ := h₂
  exact for_loop O (S.addX O.kp O.new (O.wrLive 0 _ O.start)) (O.foot_mut S) (O.new_base S.base) (O.new_X S.live) hx (fun ρ' μ' Q X₁ s₄ hT S₄ _ => hT X₁ A s₄ _ hA S₄) h fun fl s' o ρ' μ' a S' g q => ⟨o, ρ', μ', a, S', g, q⟩

/-- over a list that is told -/
theorem src_list {e : Expr} {ds : List D} (he : Ev c k env ρ μ e (.list ds)) : Src c k env ρ μ e ds := by
  intro X A s E hA R
  refine gives_bind (he X A s hA R) fun v s₁ k₁ r₁ => ?_
  cases r₁ with
  | list hX ho hc hd hr =>
    rename_i a o vs n
    refine wpAny_pyIter_list ⟨o, ho, hc, n, hd⟩ ?_
    have hne : a ≠ s₁.heap.objs.size := Nat.ne_of_lt (Heap.lt_size ho)
    have hl : vs.size = ds.length := by have := hr.length; simpa using this
    have hnew : s₁.heap.get? s₁.heap.objs.size = none := by
      refine none_of fun o h => ?_
      exact absurd (Heap.lt_size h) (Nat.lt_irrefl _)
    have hW := Walks.list (prog := c.prog) (w := c.w) hA.handled s₁.heap.objs.size a hne vs
    rw [hl] at hW
    refine ⟨_, _, _, _, _, rfl, hW, ⟨⟨_, Heap.get?_push_size _ rfl, rfl, rfl⟩, o, Heap.get?_push_of_some _ ho, hc, n, hd⟩, k₁.trans (Kp.push s₁ _ _), fun b hb => ?_, fun b hb => ?_, fun i h st b hb => ?_, fun i d v hi hv => ?_⟩
    · simp at hb; subst hb
      refine none_of fun o h => ?_
      first | exact (no1 (k₁.sub _ _ h) hnew).elim | exact (no1 hnew (k₁.sub _ _ h)).elim | (rw [k₁.sub _ _ h] at hnew; cases hnew)
    · simp at hb
      rcases hb with rfl | rfl
      · exact ⟨.inl (by simp), _, Heap.get?_push_size _ rfl⟩
      · exact ⟨.inr hX, _, Heap.get?_push_of_some _ ho⟩
    · simp at hb; subst hb
      obtain ⟨⟨o, e, _⟩, _⟩ := st; exact ⟨o, e⟩
    · obtain ⟨u, hu, hr'⟩ := hr.get hi
      have : u = v := by
        have e1 : vs[i]? = some u := by simpa using hu
        rw [hv] at e1; exact (Option.some.inj e1).symm
      subst this
      refine hr'.mono fun b o' nb eb => ⟨?_, Heap.get?_push_of_some _ eb⟩
      rintro (y | y)
      · exact nb y
      · simp at y; subst y; first | exact (no1 (hnew) eb).elim | exact (no1 eb (hnew)).elim | (rw [hnew] at eb; cases eb)
end
end Mine
end

/-! # M4 -/
section
set_option autoImplicit false
namespace Mine
open PySem PySem.Calls PyProof.Rows

theorem cf_lookup : ∀ (names : List (Str × NameKind)) (h : Heap) (acc : List (Str × Addr)) (n : Str) (a : Addr), (cellsFrom h.objs.size names acc).lookup n = some a → acc.lookup n = some a ∨ (h.objs.size ≤ a ∧ (pushCells h names).IsCell a none)
  | [], _, _, _, _, e => .inl e
  | (name, kind) :: r, h, acc, n, a, e => by
    unfold cellsFrom at e
    unfold pushCells
    split
    · rename_i hk
      rw [if_pos hk] at e
      have hs : (h.push { cls := .type "cell", data := .cell none }).objs.size = h.objs.size + 1 := Heap.size_push ..
      rw [← hs] at e
      rcases cf_lookup r _ _ n a e with q | q
      · rw [List.lookup_cons] at q
        split at q
        · cases q
          exact .inr ⟨Nat.le_refl _, Heap.IsCell.keeps ⟨_, Heap.get?_push_size _ rfl, rfl⟩ (pushCells_keeps r _)⟩
        · exact .inl q
      · exact .inr ⟨by rw [hs] at q; omega, q.2⟩
    · rename_i hk
      rw [if_neg hk] at e
      exact cf_lookup r h acc n a e
theorem cf_apart : ∀ (names : List (Str × NameKind)) (k : Nat) (acc : List (Str × Addr)), (∀ n n' a, acc.lookup n = some a → acc.lookup n' = some a → n = n') → (∀ n a, acc.lookup n = some a → a < k) →
    ∀ n n' a, (cellsFrom k names acc).lookup n = some a → (cellsFrom k names acc).lookup n' = some a → n = n'
  | [], _, _, h, _ => h
  | (name, kind) :: r, k, acc, h, hl => by
    unfold cellsFrom
    split
    · refine cf_apart r (k + 1) ((name, k) :: acc) (fun n n' a e e' => ?_) fun n a e => ?_
      · rw [List.lookup_cons] at e e'
        cases h1 : n == name <;> cases h2 : n' == name <;> simp only [h1, h2] at e e'
        · exact h n n' a e e'
        · cases e'; exact absurd (hl _ _ e) (Nat.lt_irrefl _)
        · cases e; exact absurd (hl _ _ e') (Nat.lt_irrefl _)
        · exact (beq_iff_eq.mp h1).trans (beq_iff_eq.mp h2).symm
      · rw [List.lookup_cons] at e
        split at e
        · cases e; exact Nat.lt_succ_self _
        · exact Nat.lt_succ_of_lt (hl n a e)
    · exact cf_apart r k acc h hl
theorem cf_has : ∀ (names : List (Str × NameKind)) (k : Nat) (acc : List (Str × Addr)) (n : Str), (n, NameKind.cell) ∈ names ∨ (∃ a, acc.lookup n = some a) → ∃ a, (cellsFrom k names acc).lookup n = some a
  | [], _, _, _, h => by rcases h with h | h; cases h; exact h
  | (name, kind) :: r, k, acc, n, h => by
    unfold cellsFrom
    have hc : ∀ k, (∃ a, acc.lookup n = some a) → ∃ a, ((name, k) :: acc).lookup n = some a := fun k ⟨a, e⟩ => by
      rw [List.lookup_cons]; split
      · exact ⟨_, rfl⟩
      · exact ⟨a, e⟩
    split
    · rename_i hk
      refine cf_has r (k + 1) _ n ?_
      rcases h with h | h
      · rcases List.mem_cons.mp h with q | q
        · cases q; exact .inr ⟨k, by simp⟩
        · exact .inl q
      · exact .inr (hc k h)
    · rename_i hk
      refine cf_has r k _ n ?_
      rcases h with h | h
      · rcases List.mem_cons.mp h with q | q
        · cases q; simp at hk
        · exact .inl q
      · exact .inr h
theorem mem_lookup : ∀ {names : List (Str × NameKind)} {n : Str} {k : NameKind}, names.lookup n = some k → (n, k) ∈ names
  | (m, q) :: r, n, k, h => by
    rw [List.lookup_cons] at h
    split at h
    · rename_i hb; simp at hb; cases h; subst hb; exact List.mem_cons_self
    · exact List.mem_cons_of_mem _ (mem_lookup h)

/-- every name that is captured stands in a cell -/
def freeOk (scope : Scope) (env : Env) : Bool := scope.names.all fun p => p.2 != .free || (env.kindOf p.1 == some .cell || env.kindOf p.1 == some .free)

/-- a comprehension's own block -/
def cenvOf (scope : Scope) (env : Env) (C : Addr) (cl : List (Str × Addr)) : Env :=
  { scope := relabel scope env, locals := C, globals := env.globals, cells := cl, qual := env.qual, func := none, code := env.code, frame := env.frame, builtins := env.builtins }

/-- the names that it captures -/
def capt (scope : Scope) (ρ : Vars) : Vars := ρ.filter fun p => scope.names.lookup p.1 == some .free && !(p.1 == ("__classdict__" : Str))

theorem lookup_capt {scope : Scope} {x : Str} {d : D} : ∀ {ρ : Vars}, (capt scope ρ).lookup x = some d → ρ.lookup x = some d ∧ scope.names.lookup x = some .free ∧ (x == ("__classdict__" : Str)) = false
  | [], h => by simp [capt] at h
  | (y, e) :: r, h => by
    have ih := @lookup_capt scope x d r
    unfold capt at h ih
    rw [List.filter_cons] at h
    by_cases hy : x = y
    · subst hy
      split at h
      · rename_i hp
        simp only [List.lookup_cons, beq_self_eq_true] at h
        cases h
        simp at hp
        exact ⟨by simp, hp.1, by simpa using hp.2⟩
      · rename_i hp
        obtain ⟨_, b, c'⟩ := ih h
        exact absurd (by rw [b, c']; rfl) hp
    · have hy' : (x == y) = false := by simpa using hy
      split at h
      · rw [List.lookup_cons, hy'] at h
        obtain ⟨a, b⟩ := ih h
        exact ⟨by rw [List.lookup_cons, hy']; exact a, b⟩
      · obtain ⟨a, b⟩ := ih h
        exact ⟨by rw [List.lookup_cons, hy']; exact a, b⟩

theorem relabel_free {env : Env} {x : Str} : ∀ {names : List (Str × NameKind)}, names.lookup x = some .free →
    (names.map fun (n, k) => if (k == NameKind.free && env.scope.kind == .function && env.kindOf n == some .cell) then (n, NameKind.cell) else (n, k)).lookup x = some .cell ∨
    (names.map fun (n, k) => if (k == NameKind.free && env.scope.kind == .function && env.kindOf n == some .cell) then (n, NameKind.cell) else (n, k)).lookup x = some .free
  | [], h => by simp at h
  | (n, k) :: r, h => by
    have ih := @relabel_free env x r
    rw [List.map_cons]
    cases hx : x == n with
    | true =>
      simp only [List.lookup_cons, hx] at h
      cases h
      by_cases hc : (NameKind.free == NameKind.free && env.scope.kind == .function && env.kindOf n == some .cell) = true
      · left; simp only [hc, if_true]; rw [List.lookup_cons, hx]
      · right; simp only [hc, Bool.false_eq_true, if_false]; rw [List.lookup_cons, hx]
    | false =>
      simp only [List.lookup_cons, hx] at h
      have h' := ih h
      by_cases hc : (k == NameKind.free && env.scope.kind == .function && env.kindOf n == some .cell) = true
      · simp only [hc, if_true, List.lookup_cons, hx]; exact h'
      · simp only [hc, Bool.false_eq_true, if_false, List.lookup_cons, hx]; exact h'
theorem relabel_mem {env : Env} {names : List (Str × NameKind)} {x : Str} {k : NameKind}
    (h : (x, k) ∈ names.map fun (n, k) => if (k == NameKind.free && env.scope.kind == .function && env.kindOf n == some .cell) then (n, NameKind.cell) else (n, k)) : (x, k) ∈ names ∨ (x, NameKind.free) ∈ names := by
  obtain ⟨⟨n, q⟩, hm, e⟩ := List.mem_map.mp h
  dsimp only at e
  split at e
  · rename_i hc
    cases e
    simp at hc
    obtain ⟨⟨rfl, _⟩, _⟩ := hc
    exact .inr hm
  · cases e; exact .inl hm

section
variable {M : Model} {A : Around} {E : Value → Shared → Prop} {s : Shared}
theorem newBlock {scope : Scope} {env : Env} {cl : List (Str × Addr)} {Q : Env → Shared → Prop}
    (h : Q { scope := scope, locals := s.heap.objs.size, globals := env.globals, cells := cellsFrom (s.heap.objs.size + 1) scope.names cl, qual := env.qual, func := none, code := env.code, frame := env.frame, builtins := env.builtins }
      { s with heap := pushCells (s.heap.push { cls := .type "dict", data := .dict #[] }) scope.names }) :
    wpAny M A (newFunctionEnv scope env.globals cl [] env.qual none .none (some env)) Q E s := by
  simp only [newFunctionEnv, Option.isSome_some, if_true]
  refine wpAny_bind (wpAny_alloc ?_)
  refine wpAny_bind (wpAny_layCells _ (fun name kind cells => by cases hkc : kind == NameKind.cell <;> simp [hkc]) _ _ _ _ ?_)
  rw [show ({ s with heap := s.heap.push { cls := .type "dict", data := .dict #[] } } : Shared).heap.objs.size = s.heap.objs.size + 1 from Heap.size_push ..]
  refine wpAny_bind ?_
  rw [List.forIn_nil]
  exact wpAny_pure (wpAny_pure h)
end
end Mine
end

/-! # M5 -/
section
set_option autoImplicit false
namespace Mine
open PySem PySem.Calls PyProof.Rows

/-- what was kept apart for a while is let go -/
theorem St.dropX {c : Cx} {X₀ : Addr → Prop} {env : Env} {ρ : Vars} {μ : Mem} {s s' : Shared} {wr : List Addr} (S : St c (fun a => X₀ a ∨ a ∈ wr) env ρ μ s) (k : ∀ b o, b ∉ wr → s.heap.get? b = some o → s'.heap.get? b = some o)
    (hw : ∀ b ∈ wr, ¬ X₀ b) (hm : ∀ b ∈ wr, ¬ Mut env μ b) (hb : ∀ b ∈ wr, c.base.get? b = none) : St c X₀ env ρ μ s' := by
  have S₀ : St c X₀ env ρ μ s := S.reX fun a h => .inl h
  have hx : ∀ a o, ¬ XOf (fun a => X₀ a ∨ a ∈ wr) env μ a → s.heap.get? a = some o → ¬ XOf X₀ env μ a ∧ s'.heap.get? a = some o := fun a o q e => ⟨fun y => q (y.imp .inl id), k a o (fun w => q (.inl (.inr w))) e⟩
  have hM : ∀ a o, Mut env μ a → s.heap.get? a = some o → s'.heap.get? a = some o := fun a o m e => k a o (fun w => hm a w m) e
  refine { S₀ with base := fun a o e => k a o (fun w => ?_) (S₀.base a o e), live := fun a q => ?_, ns := ?_, cel := fun n a h => ?_, vars := fun x d e => ?_, mem := fun a ds m => ?_ }
  · first | exact (no1 (hb a w) e).elim | exact (no1 e (hb a w)).elim | (rw [hb a w] at e; cases e)
  · exact (S.live a (.inl q)).imp fun o' e' => k a o' (fun w => hw a w q) e'
  · obtain ⟨m, o, es, ep, e, r⟩ := S₀.ns
    exact ⟨m, o, es, ep, hM _ _ (.inl rfl) e, r⟩
  · obtain ⟨ov, o, e, r⟩ := S₀.cel n a h
    exact ⟨ov, o, hM _ _ (.inr (.inl ⟨n, h⟩)) e, r⟩
  · obtain ⟨v, a, b⟩ := S.vars x d e
    refine ⟨v, ?_, b.mono hx⟩
    rcases a with ⟨a, m, ⟨o, es, ep, e', r⟩, q⟩ | ⟨a, c', q, o, e', r⟩
    · exact .inl ⟨a, m, ⟨o, es, ep, hM _ _ (.inl rfl) e', r⟩, q⟩
    · exact .inr ⟨a, c', q, o, hM _ _ (.inr (.inl ⟨x, q⟩)) e', r⟩
  · obtain ⟨vs, ⟨o, e, y⟩, b⟩ := S.mem a ds m
    exact ⟨vs, ⟨o, hM _ _ (.inr (.inr ⟨ds, m⟩)) e, y⟩, b.mono hx⟩

theorem cf_other : ∀ (names : List (Str × NameKind)) (k : Nat) (acc : List (Str × Addr)) (n : Str), (∀ p ∈ names, p.2 = NameKind.cell → p.1 ≠ n) → (cellsFrom k names acc).lookup n = acc.lookup n
  | [], _, _, _, _ => rfl
  | (name, kind) :: r, k, acc, n, h => by
    have ih := fun k acc => cf_other r k acc n fun p hp => h p (List.mem_cons_of_mem _ hp)
    unfold cellsFrom
    split
    · rename_i hk
      have hk' : kind = .cell := by simpa using hk
      rw [ih, List.lookup_cons]
      have : (n == name) = false := by simpa using fun e => h (name, kind) List.mem_cons_self hk' (Eq.symm e)
      rw [this]
    · exact ih k acc

/-- the tests of a comprehension -/
def Tests (c : Cx) (k : Nat) (env : Env) (ρ : Vars) (ifs : List Expr) (b : Bool) : Prop :=
  ∀ X A s E, Room k A → Rc c X env ρ [] s → wpAny (model c.prog c.w) A (forIn ifs true fun c r => if r = true then do let ok ← isTrue c env (eval c env); pure (ForInStep.yield ok) else pure (ForInStep.yield r)) (fun ok s' => Kp s s' ∧ ok = b) E s
theorem tests_nil {c : Cx} {k : Nat} {env : Env} {ρ : Vars} : Tests c k env ρ [] true := fun _ _ s _ _ _ => by
  rw [List.forIn_nil]; exact wpAny_pure ⟨Kp.refl s, rfl⟩
theorem tests_one {c : Cx} {k : Nat} {env : Env} {ρ : Vars} {e : Expr} {b : Bool} (h : Tr c k env ρ [] e b) : Tests c k env ρ [e] b := fun X A s E hA R => by
  rw [List.forIn_cons]
  simp only [if_true]
  refine wpAny_bind (wpAny_bind (wpAny_mono (h X A s E hA R) (fun v s' q => wpAny_pure ?_) fun _ _ e => e))
  simp only [List.forIn_nil]
  exact wpAny_pure q

def compOk (scope : Scope) (env : Env) (x : Str) : Bool := freeOk scope env && (scope.kind == .function) && (scope.names.lookup x == some .local || scope.names.lookup x == some .cell) &&
  scope.names.all fun p => (p.2 != .cell || p.1 == x) && (p.2 != .free || !(p.1 == x)) && (p.2 != .local || scope.names.lookup p.1 == some .local)

structure CompOk (scope : Scope) (env : Env) (x : Str) : Prop where
  free : freeOk scope env = true
  kind : scope.kind = .function
  tgt : scope.names.lookup x = some .local ∨ scope.names.lookup x = some .cell
  cell : ∀ p ∈ scope.names, p.2 = .cell → p.1 = x
  nfree : ∀ p ∈ scope.names, p.2 = .free → p.1 ≠ x
  names : ∀ p ∈ scope.names, p.2 = .local → scope.names.lookup p.1 = some .local
theorem CompOk.of {scope : Scope} {env : Env} {x : Str} (h : compOk scope env x = true) : CompOk scope env x := by
  unfold compOk at h
  simp only [Bool.and_eq_true, Bool.or_eq_true, List.all_eq_true, beq_iff_eq, bne_iff_ne, Bool.not_eq_true'] at h
  obtain ⟨⟨⟨h1, h2⟩, h3⟩, h4⟩ := h
  refine ⟨h1, h2, h3, fun p hp e => ?_, fun p hp e => ?_, fun p hp e => ?_⟩
  · rcases (h4 p hp).1.1 with q | q
    · exact absurd e q
    · exact q
  · rcases (h4 p hp).1.2 with q | q
    · exact absurd e q
    · simpa using q
  · rcases (h4 p hp).2 with q | q
    · exact absurd e q
    · exact q

theorem relabel_cell {env : Env} {x : Str} : ∀ {names : List (Str × NameKind)}, names.lookup x = some .cell →
    (names.map fun (n, k) => if (k == NameKind.free && env.scope.kind == .function && env.kindOf n == some .cell) then (n, NameKind.cell) else (n, k)).lookup x = some .cell
  | [], h => by simp at h
  | (n, k) :: r, h => by
    have ih := @relabel_cell env x r
    rw [List.map_cons]
    cases hx : x == n with
    | true =>
      simp only [List.lookup_cons, hx] at h
      cases h
      simp [List.lookup_cons, hx]
    | false =>
      simp only [List.lookup_cons, hx] at h
      by_cases hc : (k == NameKind.free && env.scope.kind == .function && env.kindOf n == some .cell) = true
      · simp only [hc, if_true, List.lookup_cons, hx]; exact ih h
      · simp only [hc, Bool.false_eq_true, if_false, List.lookup_cons, hx]; exact ih h

section
variable {c : Cx} {k : Nat} {env : Env} {ρ : Vars} {μ : Mem} {elt iter : Expr} {x : Str} {px : Pos} {ifs : List Expr} {scope : Scope} {pos : Pos} {ds : List D} {p : D → Bool} {f : D → D}

/-- the block of a comprehension, as it stands ahead of its turns -/
structure CB (c : Cx) (X : Addr → Prop) (ρc : Vars) (x : Str) (s s₂ : Shared) (wr : List Addr) (D : Nat) (cenv : Env) (h₄ : Heap) : Prop where
  old : ∀ (b : Nat) o, s₂.heap.get? b = some o → b < D
  sub : Sub s₂.heap h₄
  muts : ∀ (a : Nat), Mut cenv [] a → a = D + 1 ∨ D + 2 ≤ a ∨ (X a ∧ ∃ o, s.heap.get? a = some o)
  loc : cenv.locals = D + 1
  st : St c (fun a => X a ∨ a ∈ D :: wr) cenv ρc [] { s₂ with heap := h₄ }
  stor : stor cenv x = true
  addr : D + 1 ≤ addrOf cenv x
  list : h₄.IsList D #[]
  fresh : ∀ y d, ρc.lookup y = some d → y ≠ x

section
variable {X : Addr → Prop} {A : Around} {E : Value → Shared → Prop} {s s₂ : Shared} {I : Addr} {fp wr : List Addr} {P : Nat → Value → Prop} {W : Nat → Heap → Prop} {D : Nat} {cenv : Env} {h₄ : Heap} {ρc : Vars}
theorem CB.new (B : CB c X ρc x s s₂ wr D cenv h₄) {b : Nat} (h : D ≤ b) : s₂.heap.get? b = none := none_of fun o e => absurd (B.old b o e) (Nat.not_lt.mpr h)
theorem CB.outM (B : CB c X ρc x s s₂ wr D cenv h₄) {b : Nat} (h1 : b ≤ D) (h2 : X b → ∀ o, s.heap.get? b = some o → False) : ¬ Mut cenv [] b := fun m => by
  rcases B.muts b m with q | q | ⟨q, o, e⟩
  · exact absurd h1 (q ▸ Nat.not_succ_le_self D)
  · exact absurd h1 (Nat.not_le.mpr (Nat.lt_of_lt_of_le (Nat.lt_succ_of_lt (Nat.lt_succ_self D)) q))
  · exact h2 q o e
theorem CB.DM (B : CB c X ρc x s s₂ wr D cenv h₄) (O : SrcOf c X A ds s s₂ I fp wr P W) : ¬ Mut cenv [] D := B.outM (Nat.le_refl _) fun _ o e => no1 (B.new (Nat.le_refl _)) (O.kp.sub D o e)
theorem CB.wD (B : CB c X ρc x s s₂ wr D cenv h₄) (O : SrcOf c X A ds s s₂ I fp wr P W) {b : Nat} (h : b ∈ wr) : b < D := let ⟨o, e⟩ := O.wrLive 0 _ O.start b h; B.old b o e
theorem CB.wM (B : CB c X ρc x s s₂ wr D cenv h₄) (O : SrcOf c X A ds s s₂ I fp wr P W) : ∀ (b : Nat), b ∈ wr → ¬ Mut cenv [] b := fun b h => B.outM (Nat.le_of_lt (B.wD O h)) fun _ o e => no1 (O.new b h) e
theorem CB.fM (B : CB c X ρc x s s₂ wr D cenv h₄) (O : SrcOf c X A ds s s₂ I fp wr P W) : ∀ (b : Nat), b ∈ fp → ¬ Mut cenv [] b := fun b h => by
  obtain ⟨q1, o, e⟩ := O.foot b h
  exact B.outM (Nat.le_of_lt (B.old b o e)) fun q o' e' => q1.elim (fun w => no1 (O.new b w) e') fun w => w q

/-- where a comprehension stands ahead of turn i -/
structure CAt (c : Cx) (X : Addr → Prop) (ρc : Vars) (s₂ : Shared) (wr : List Addr) (W : Nat → Heap → Prop) (D : Nat) (cenv : Env) (out : List Mine.D) (i : Nat) (s' : Shared) : Prop where
  w : W i s'.heap
  st : St c (fun a => X a ∨ a ∈ D :: wr) cenv ρc [] s'
  list : ∃ ys, s'.heap.IsList D ys ∧ RdAll (XOf (fun a => X a ∨ a ∈ D :: wr) cenv []) s'.heap ys.toList out
  same : Same s₂ s'
  keep : ∀ b o, b ∉ wr → s₂.heap.get? b = some o → s'.heap.get? b = some o

theorem CAt.kp {out : List Mine.D} {i : Nat} {s' s'' : Shared} (C : CAt c X ρc s₂ wr W D cenv out i s') (O : SrcOf c X A ds s s₂ I fp wr P W) (k : Kp s' s'') : CAt c X ρc s₂ wr W D cenv out i s'' :=
  ⟨O.walks.frame _ _ _ C.w fun b _ o e => k.sub b o e, C.st.kp k, let ⟨ys, ⟨o, e, q⟩, r⟩ := C.list; ⟨ys, ⟨o, k.sub D o e, q⟩, r.keep k.sub⟩, C.same.trans k.same, fun b o w e => k.sub b o (C.keep b o w e)⟩
theorem CAt.weak {out : List Mine.D} {i : Nat} {s' : Shared} {ρ₁ : Vars} (C : CAt c X ρ₁ s₂ wr W D cenv out i s') (h : ∀ y d, ρc.lookup y = some d → ρ₁.lookup y = some d) : CAt c X ρc s₂ wr W D cenv out i s' := ⟨C.w, C.st.weak h, C.list, C.same, C.keep⟩

/-- the item is taken -/
theorem comp_take {out : List Mine.D} {i : Nat} {s' : Shared} {v : Value} {h' : Heap} {tk : Nat} {Q : Unit → Shared → Prop} (B : CB c X ρc x s s₂ wr D cenv h₄) (O : SrcOf c X A ds s s₂ I fp wr P W) (hb : Sub c.base s.heap) (C : CAt c X ρc s₂ wr W D cenv out i s') (hlt : i < ds.length) (hP : P i v) (hW : W (i + 1) h')
    (hk : ∀ b o, b ∉ wr → s'.heap.get? b = some o → h'.get? b = some o) (h : ∀ s₆, CAt c X ((x, ds[i]) :: ρc) s₂ wr W D cenv out (i + 1) s₆ → Q () s₆) : wpAny (model c.prog c.w) A (assign (.Name x px) cenv v) Q E { s' with heap := h', toks := tk } := by
  have S₅ : St c (fun a => X a ∨ a ∈ D :: wr) cenv ρc [] { s' with heap := h', toks := tk } := C.st.inX (s' := { s' with heap := h', toks := tk }) hk (fun b hb => .inr (List.mem_cons_of_mem _ hb)) (O.wrLive _ _ hW) (B.wM O) (O.new_base hb)
  have K5 : ∀ b o, b ∉ wr → s₂.heap.get? b = some o → h'.get? b = some o := fun b o w e => hk b o w (C.keep b o w e)
  have r₅ : Rd (XOf (fun a => X a ∨ a ∈ D :: wr) cenv []) h' v ds[i] := (O.item i _ v (List.getElem?_eq_getElem hlt) hP).mono fun (a : Nat) o n e => by
    have nw : a ∉ wr := fun w => n (.inr w)
    have := B.old a o e
    refine ⟨?_, K5 a o nw e⟩
    rintro ((y | y) | y)
    · exact n (.inl y)
    · exact (List.mem_cons.mp y).elim (Nat.ne_of_lt this) nw
    · exact B.outM (Nat.le_of_lt this) (fun q _ _ => n (.inl q)) y
  refine wpAny_assign_Name (st_store' S₅ B.stor r₅ fun s₆ S₆ g₆ hsb => h s₆ ⟨O.walks.frame _ _ _ hW fun b hb o e => g₆.keep b o (B.fM O b hb) e, S₆, ?_, C.same.trans ⟨g₆.same.os, g₆.same.gens⟩, fun b o w e => hsb.extBut b o (Nat.ne_of_lt (Nat.lt_of_lt_of_le (B.old b o e) (Nat.le_trans (Nat.le_succ _) B.addr))) (K5 b o w e)⟩)
  obtain ⟨ys, ⟨o, e, q⟩, r⟩ := C.list
  exact ⟨ys, ⟨o, g₆.keep D o (B.DM O) (hk D o (fun w => Nat.lt_irrefl _ (B.wD O w)) e), q⟩, r.mono fun a o n e => ⟨n, g₆.keep a o (fun m => n (.inr m)) (hk a o (fun w => n (.inl (.inr (List.mem_cons_of_mem _ w)))) e)⟩⟩

/-- and goes into the list -/
theorem comp_put {out : List Mine.D} {i : Nat} {s' : Shared} {u : Value} {d : Mine.D} {Q : Value → Shared → Prop} {ρ₁ : Vars} (B : CB c X ρc x s s₂ wr D cenv h₄) (O : SrcOf c X A ds s s₂ I fp wr P W) (hb : Sub c.base s.heap) (hz : out.length ≤ sizeLine) (C : CAt c X ρ₁ s₂ wr W D cenv out i s') (r : Rd (XOf (fun a => X a ∨ a ∈ D :: wr) cenv []) s'.heap u d)
    (h : ∀ h', CAt c X ρ₁ s₂ wr W D cenv (out ++ [d]) i { s' with heap := h' } → Q .none { s' with heap := h' }) : wpAny (model c.prog c.w) A (call (.builtin "list.append") [.ref D, u]) Q E s' := by
  obtain ⟨ys, hl, hr⟩ := C.list
  refine wpAny_list_append (hsz := by have := hr.length; rw [Array.length_toList] at this; exact this ▸ hz) hl fun h₉ hl₉ hs₉ => h h₉ ?_
  have hD : ∀ b, b ∈ [D] → b = D := fun b h => List.mem_singleton.mp h
  have hXD : XOf (fun a => X a ∨ a ∈ D :: wr) cenv [] D := .inl (.inr List.mem_cons_self)
  refine ⟨O.walks.frame _ _ _ C.w fun b hb o e => hs₉.extBut b o (by obtain ⟨_, o', e'⟩ := O.foot b hb; exact Nat.ne_of_lt (B.old b o' e')) e,
    C.st.inX (s' := { s' with heap := h₉ }) (wr := [D]) (fun b o w e => hs₉.extBut b o (fun q => w (List.mem_singleton.mpr q)) e) (fun b hb => hD b hb ▸ .inr List.mem_cons_self) (fun b hb => hD b hb ▸ (let ⟨o, e, _⟩ := hl₉; ⟨o, e⟩)) (fun b hb => hD b hb ▸ B.DM O) (fun b h => hD b h ▸ none_of fun o e => no1 (B.new (Nat.le_refl _)) (O.kp.sub D o (hb D o e))),
    ⟨ys.push u, hl₉, by rw [Array.toList_push]; exact (hr.but hXD hs₉).append (.cons (r.but hXD hs₉) .nil)⟩, C.same.trans ⟨rfl, rfl⟩, fun b o w e => hs₉.extBut b o (Nat.ne_of_lt (B.old b o e)) (C.keep b o w e)⟩

theorem comp_done {s' : Shared} {h' : Heap} {tk : Nat} {i : Nat} {out : List Mine.D} (B : CB c X ρc x s s₂ wr D cenv h₄) (O : SrcOf c X A ds s s₂ I fp wr P W) (hl : ∀ a, X a → ∃ o, s.heap.get? a = some o) (C : CAt c X ρc s₂ wr W D cenv out i s') (hk : ∀ b o, b ∉ wr → s'.heap.get? b = some o → h'.get? b = some o) :
    (∃ m, h'.Ns (D + 1) m) ∧ Rd (fun a => X a ∨ a = D + 1) h' (.ref D) (.list out) ∧ Kp s { s' with heap := h', toks := tk } := by
  refine ⟨?_, ?_, fun b o e => ?_, (O.kp.same.trans C.same).trans ⟨rfl, rfl⟩⟩
  · obtain ⟨m, o, es, ep, e, r⟩ := C.st.ns
    exact ⟨m, o, es, ep, B.loc ▸ hk _ o (fun w => B.wM O _ w (.inl rfl)) e, r⟩
  · obtain ⟨ys, ⟨o, e, hc, n, hd⟩, hr⟩ := C.list
    refine .list ?_ (hk D o (fun w => Nat.lt_irrefl _ (B.wD O w)) e) hc hd (hr.mono fun a o n e => ⟨fun y => n (y.elim (fun y => .inl (.inl y)) fun y => .inr (.inl (y.trans B.loc.symm))), hk a o (fun w => n (.inl (.inr (List.mem_cons_of_mem _ w)))) e⟩)
    rintro (y | y)
    · obtain ⟨o', e'⟩ := hl D y
      exact no1 (B.new (Nat.le_refl _)) (O.kp.sub D o' e')
    · exact absurd y (Nat.ne_of_lt (Nat.lt_succ_self _))
  · have w : b ∉ wr := fun w => no1 (O.new b w) e
    exact hk b o w (C.keep b o w (O.kp.sub b o e))

theorem comp_loop {R : Result → Shared → Prop} (hA : Room k A) (hbase : Sub c.base s.heap) (hlive : ∀ a, X a → ∃ o, s.heap.get? a = some o) (B : CB c X ρc x s s₂ wr D cenv h₄) (O : SrcOf c X A ds s s₂ I fp wr P W) (hlen : ds.length ≤ 16777216)
    (tests : ∀ d, d ∈ ds → Tests c k cenv ((x, d) :: ρc) ifs (p d)) (elts : ∀ d, d ∈ ds → p d = true → Ev c k cenv ((x, d) :: ρc) [] elt (f d))
    (hR : ∀ s', (∃ m, s'.heap.Ns (D + 1) m) → Rd (fun a => X a ∨ a = D + 1) s'.heap (.ref D) (.list ((ds.filter p).map f)) → Kp s s' → R (.ok .next) s') :
    codeAny (model c.prog c.w) A (.compLoop (.ListComp elt [⟨.Name x px, iter, ifs, 0⟩] scope pos) 0 (.ref I) (.ref D) cenv) R { s₂ with heap := h₄ } := by
  refine codeAny_compLoop_tests (fun n s' => ∃ i, i ≤ ds.length ∧ n = ds.length + 1 - i ∧ CAt c X ρc s₂ wr W D cenv (((ds.take i).filter p).map f) i s') ?_ (ds.length + 1)
    ⟨0, Nat.zero_le _, rfl, O.walks.frame _ _ _ O.start fun b hb o e => B.sub b o e, B.st, ⟨#[], B.list, .nil⟩, ⟨rfl, rfl⟩, fun b o _ e => B.sub b o e⟩
  rintro n s' ⟨i, hle, rfl, C⟩
  by_cases hlt : i < ds.length
  · refine O.walks.item i s' _ _ hlt C.w fun v h' tk hP hW' hk => comp_take B O hbase C hlt hP hW' hk fun s₆ C₆ => ?_
    have hmem : ds[i] ∈ ds := List.getElem_mem hlt
    have htake : ds.take (i + 1) = ds.take i ++ [ds[i]] := by rw [List.take_add_one, List.getElem?_eq_getElem hlt]; rfl
    have hn : ds.length + 1 - (i + 1) < ds.length + 1 - i := Nat.sub_lt_sub_left (Nat.lt_succ_of_lt hlt) (Nat.lt_succ_self i)
    have hw : ∀ y d, ρc.lookup y = some d → ((x, ds[i]) :: ρc).lookup y = some d := fun y d e => by
      rw [List.lookup_cons, beq_false_of_ne (B.fresh y d e)]; exact e
    refine wpAny_mono (tests ds[i] hmem _ A s₆ _ hA C₆.st.rc) (fun b s₇ q => ?_) fun _ _ e => e
    obtain ⟨k₇, rfl⟩ := q
    have C₇ := C₆.kp O k₇
    cases hp : p ds[i] with
    | false =>
      simp only [Bool.false_eq_true, if_false]
      have ho : ((ds.take (i + 1)).filter p).map f = ((ds.take i).filter p).map f := by rw [htake, List.filter_append]; simp [hp]
      exact ⟨_, hn, i + 1, hlt, rfl, ho ▸ C₇.weak hw⟩
    | true =>
      simp only [if_true]
      refine gives_bind (elts ds[i] hmem hp _ A s₇ hA C₇.st.rc) fun u s₈ k₈ r₈ => comp_put B O hbase ?_ (C₇.kp O k₈) r₈ fun h₉ C₉ => ?_
      · rw [List.length_map, sizeLine_eq]
        exact Nat.le_trans (List.length_filter_le _ _) (Nat.le_trans (List.length_take_le _ _) (by lia))
      · have ho : ((ds.take (i + 1)).filter p).map f = ((ds.take i).filter p).map f ++ [f ds[i]] := by rw [htake, List.filter_append]; simp [hp]
        exact ⟨_, hn, i + 1, hlt, rfl, ho ▸ C₉.weak hw⟩
  · have hin : i = ds.length := Nat.le_antisymm hle (Nat.not_lt.mp hlt)
    refine O.walks.done s' _ _ (hin ▸ C.w) fun h' tk hk => ?_
    obtain ⟨x1, x2, x3⟩ := comp_done (tk := tk) B O hlive C hk
    rw [hin, List.take_length] at x2
    exact hR _ x1 x2 x3
end

theorem comp_block {X : Addr → Prop} {A : Around} {s s₂ : Shared} {I : Addr} {fp wr : List Addr} {P : Nat → Value → Prop} {W : Nat → Heap → Prop} {cl cells : List (Str × Addr)} {D : Nat} {H h₄ : Heap} (R : Rc c X env ρ μ s) (O : SrcOf c X A ds s s₂ I fp wr P W) (ok : CompOk scope env x)
    (hcl1 : ∀ n, (n, NameKind.free) ∈ scope.names → ∃ a, cl.lookup n = some a) (hcl2 : ∀ n a, cl.lookup n = some a → env.cells.lookup n = some a ∧ (n, NameKind.free) ∈ scope.names)
    (hD : s₂.heap.objs.size = D) (hH : s₂.heap.push { cls := .type "list", dict := none, data := .seq ([] : List Value).toArray } = H) (hC : H.objs.size = D + 1) (hcells : cellsFrom (D + 1 + 1) scope.names cl = cells) (hh₄ : pushCells (H.push { cls := .type "dict", data := .dict #[] }) scope.names = h₄) :
    CB c X (capt scope ρ) x s s₂ wr D (cenvOf scope env (D + 1) cells) h₄ := by
  have old₂ : ∀ (b : Nat) o, s₂.heap.get? b = some o → b < D := fun b o e => hD ▸ Heap.lt_size e
  have hsz : (H.push { cls := .type "dict", data := .dict #[] }).objs.size = D + 2 := by rw [Heap.size_push, hC]
  have k₄ : Sub s₂.heap h₄ := fun b o e => hh₄ ▸ pushCells_keeps _ _ b o (Heap.get?_push_of_some _ (hH ▸ Heap.get?_push_of_some _ e))
  have hk₄ : Sub s.heap h₄ := O.kp.sub.trans k₄
  have listD : ∃ o, h₄.get? D = some o ∧ o.cls = .type "list" ∧ o.data = .seq #[] := ⟨_, hh₄ ▸ pushCells_keeps _ _ _ _ (Heap.get?_push_of_some _ (hH ▸ hD ▸ Heap.get?_push_size _ rfl)), rfl, rfl⟩
  have look : ∀ n (a : Nat), cells.lookup n = some a → (cl.lookup n = some a) ∨ (D + 2 ≤ a ∧ h₄.IsCell a none) := fun n a e => by
    have hcells' : cells = cellsFrom (H.push { cls := .type "dict", data := .dict #[] }).objs.size scope.names cl := by rw [hsz, ← hcells]
    rw [hcells'] at e
    rcases cf_lookup _ _ _ _ _ e with q | q
    · exact .inl q
    · rw [hsz, hh₄] at q; exact .inr q
  have clLive : ∀ n (a : Nat), cl.lookup n = some a → X a ∧ c.base.get? a = none ∧ (∃ ov, s.heap.IsCell a ov) ∧ a < D := fun n a e => by
    obtain ⟨x1, x2, ov, o, e', r⟩ := R.cel n a (hcl2 n a e).1
    exact ⟨x1, x2, ⟨ov, o, e', r⟩, old₂ a o (O.kp.sub a o e')⟩
  have baseD : ∀ (b : Nat), D ≤ b → c.base.get? b = none := fun b hb => none_of fun o e => absurd (old₂ b o (O.kp.sub b o (R.base b o e))) (Nat.not_lt.mpr hb)
  have hMut : ∀ (a : Nat), Mut (cenvOf scope env (D + 1) cells) [] a → a = D + 1 ∨ D + 2 ≤ a ∨ (X a ∧ ∃ o, s.heap.get? a = some o) := fun a m => by
    rcases m with m | ⟨n, m⟩ | ⟨_, m⟩
    · exact .inl m
    · rcases look n a m with q | q
      · obtain ⟨x1, _, ⟨_, o, e, _⟩, _⟩ := clLive n a q; exact .inr (.inr ⟨x1, o, e⟩)
      · exact .inr (.inl q.1)
    · cases m
  have hX₁ : ∀ (a : Nat) o, ¬ X a → s.heap.get? a = some o → ¬ XOf (fun a => X a ∨ a ∈ D :: wr) (cenvOf scope env (D + 1) cells) [] a ∧ h₄.get? a = some o := fun a o n e => by
    have := old₂ a o (O.kp.sub a o e)
    refine ⟨?_, hk₄ a o e⟩
    rintro ((y | y) | y)
    · exact n y
    · exact (List.mem_cons.mp y).elim (Nat.ne_of_lt this) fun y => no1 (O.new a y) e
    · rcases hMut a y with q | q | ⟨q, _⟩
      · lia
      · lia
      · exact n q
  refine ⟨old₂, k₄, hMut, rfl, ?_, ?_, ?_, let ⟨o, e, q1, q2⟩ := listD; ⟨o, e, q1, _, q2⟩, fun y d e q => ?_⟩
  · refine ⟨⟨ok.kind, R.ok.globals, R.ok.builtins, fun n h => ?_⟩, R.base.trans hk₄, fun a m => ?_, fun a h => ?_, ?_, fun n a h => ?_, fun n n' a h h' => ?_, fun y d e => ?_, fun a ds m => ?_, List.nodup_nil, fun _ _ m => (nomatch m)⟩
    · have hm : (n, NameKind.cell) ∈ scope.names ∨ (n, NameKind.free) ∈ scope.names := by
        rcases h with h | h
        · exact relabel_mem (mem_lookup h)
        · exact (relabel_mem (mem_lookup h)).elim .inr .inr
      show ∃ a, cells.lookup n = some a
      rw [← hcells]
      exact cf_has _ _ _ _ (hm.imp id (hcl1 n))
    · rcases m with m | ⟨n, m⟩ | ⟨_, m⟩
      · exact baseD a (by have : (a : Nat) = D + 1 := m; exact this ▸ Nat.le_succ D)
      · rcases look n a m with q | q
        · exact (clLive n a q).2.1
        · exact baseD a (Nat.le_trans (by lia) q.1)
      · cases m
    · rcases h with h | h
      · exact (R.live a h).imp fun o e => hk₄ a o e
      · rcases List.mem_cons.mp h with h | h
        · obtain ⟨o, e, _⟩ := listD; exact ⟨o, h ▸ e⟩
        · exact (O.wrLive 0 _ O.start a h).imp fun o e => k₄ a o e
    · refine ⟨fun _ => none, ?_⟩
      have := (Heap.Ns.new H (.type "dict")).keeps (pushCells_keeps scope.names (H.push { cls := .type "dict", data := .dict #[] }))
      rw [hh₄, hC] at this
      exact this
    · rcases look n a h with q | q
      · obtain ⟨_, _, ⟨ov, x3⟩, _⟩ := clLive n a q; exact ⟨ov, x3.keeps hk₄⟩
      · exact ⟨_, q.2⟩
    · have h1 : cells.lookup n = some a := h
      have h2 : cells.lookup n' = some a := h'
      rw [← hcells] at h1 h2
      refine cf_apart _ _ _ (fun m m' b e e' => R.apart m m' b (hcl2 m b e).1 (hcl2 m' b e').1) (fun m b e => ?_) n n' a h1 h2
      exact Nat.lt_of_lt_of_le (clLive m b e).2.2.2 (by lia)
    · obtain ⟨e1, e2, e3⟩ := lookup_capt e
      obtain ⟨v, hv, hr⟩ := R.vars y d e1
      have hm := mem_lookup e2
      have hfr : env.kindOf y = some .cell ∨ env.kindOf y = some .free := by
        have h1 := List.all_eq_true.mp ok.free _ hm
        simpa using h1
      refine ⟨v, ?_, hr.mono hX₁⟩
      rcases hv with ⟨a, _⟩ | ⟨_, a, ha, hc⟩
      · rcases hfr with q | q <;> rw [q] at a <;> cases a
      · refine .inr ⟨?_, a, ?_, hc.keeps hk₄⟩
        · rcases relabel_free (env := env) e2 with q | q
          · exact .inl q
          · exact .inr ⟨q, e3⟩
        · show cells.lookup y = some a
          rw [← hcells, cf_other _ _ _ _ (fun q hq hc' e' => ok.nfree _ hm rfl (e'.symm.trans (ok.cell q hq hc')))]
          obtain ⟨b, hb⟩ := hcl1 y hm
          rw [hb, ← (hcl2 y b hb).1, ha]
    · cases m
  · rcases ok.tgt with q | q
    · have : (cenvOf scope env (D + 1) cells).kindOf x = some .local := lookup_relabel_local q
      unfold stor; rw [this]
    · have : (cenvOf scope env (D + 1) cells).kindOf x = some .cell := relabel_cell q
      unfold stor; rw [this]
  · unfold addrOf
    split
    · exact Nat.le_refl _
    · rename_i hnl
      rcases ok.tgt with q | q
      · exact absurd (lookup_relabel_local q) hnl
      · obtain ⟨a, ha⟩ := cf_has scope.names (D + 1 + 1) cl x (.inl (mem_lookup q))
        rw [hcells] at ha
        show D + 1 ≤ (cells.lookup x).getD 0
        rw [ha]
        rcases look x a ha with z | z
        · exact absurd rfl (ok.nfree _ (hcl2 x a z).2 rfl)
        · show D + 1 ≤ a; lia
  · subst q; exact ok.nfree _ (mem_lookup (lookup_capt e).2.1) rfl rfl

theorem comp_core {X : Addr → Prop} {A : Around} {E : Value → Shared → Prop} {s s₂ : Shared} {I : Addr} {fp wr : List Addr} {P : Nat → Value → Prop} {W : Nat → Heap → Prop} {cl : List (Str × Addr)} {RR : Value → Addr → Result → Shared → Prop}
    (hA : Room k A) (R : Rc c X env ρ μ s) (O : SrcOf c X A ds s s₂ I fp wr P W) (ok : CompOk scope env x) (hlen : ds.length ≤ 16777216)
    (hcl1 : ∀ n, (n, NameKind.free) ∈ scope.names → ∃ a, cl.lookup n = some a) (hcl2 : ∀ n a, cl.lookup n = some a → env.cells.lookup n = some a ∧ (n, NameKind.free) ∈ scope.names)
    (tests : ∀ C cl d, d ∈ ds → Tests c k (cenvOf scope env C cl) ((x, d) :: capt scope ρ) ifs (p d))
    (elts : ∀ C cl d, d ∈ ds → p d = true → Ev c k (cenvOf scope env C cl) ((x, d) :: capt scope ρ) [] elt (f d))
    (hRR : ∀ D C s', s₂.heap.get? D = none → s₂.heap.get? C = none → D ≠ C → (∃ m, s'.heap.Ns C m) → Rd (fun a => X a ∨ a = C) s'.heap (.ref D) (.list ((ds.filter p).map f)) → Kp s s' → RR (.ref D) C (.ok .next) s') :
    wpAny (model c.prog c.w) A (newList []) (fun acc s₃ => wpAny (model c.prog c.w) A (newFunctionEnv scope env.globals cl [] env.qual none .none (some env)) (fun cenv s₄ =>
      codeAny (model c.prog c.w) A (.compStart (.ListComp elt [⟨.Name x px, iter, ifs, 0⟩] scope pos) 0 (.ref I) acc { cenv with scope := relabel scope env }) (RR acc cenv.locals) s₄) E s₃) E s₂ := by
  refine wpAny_newObj_type (newBlock ?_)
  dsimp only
  generalize hD : s₂.heap.objs.size = D
  generalize hH : s₂.heap.push { cls := .type "list", dict := none, data := .seq ([] : List Value).toArray } = H
  have hC : H.objs.size = D + 1 := by rw [← hH, Heap.size_push, hD]
  generalize hcells : cellsFrom (H.objs.size + 1) scope.names cl = cells
  generalize hh₄ : pushCells (H.push { cls := .type "dict", data := .dict #[] }) scope.names = h₄
  rw [hC] at hcells ⊢
  have B := comp_block R O ok hcl1 hcl2 hD hH hC hcells hh₄
  have loop := comp_loop (iter := iter) (px := px) (scope := scope) (pos := pos) (R := RR (.ref D) (D + 1)) hA R.base R.live B O hlen (fun d h => tests _ _ d h) (fun d h => elts _ _ d h) fun s' q1 q2 q3 => hRR D (D + 1) s' (B.new (Nat.le_refl _)) (B.new (Nat.le_succ _)) (Nat.ne_of_lt (Nat.lt_succ_self _)) q1 q2 q3
  exact codeAny_compStart_list loop (O.walks.self 0 _ _ _ (O.walks.frame _ _ _ O.start fun b hb o e => B.sub b o e) loop)

theorem closureFor_free {scope : Scope} {env : Env} (hh : ∀ n, env.kindOf n = some .cell ∨ env.kindOf n = some .free → ∃ a, env.cells.lookup n = some a) (hf : freeOk scope env = true) :
    ∃ cl, closureFor scope env = pure cl ∧ (∀ n, (n, NameKind.free) ∈ scope.names → ∃ a, cl.lookup n = some a) ∧ (∀ n a, cl.lookup n = some a → env.cells.lookup n = some a ∧ (n, NameKind.free) ∈ scope.names) := by
  have main : ∀ (names : List (Str × NameKind)) (acc : List (Str × Addr)), (names.all fun p => p.2 != .free || (env.kindOf p.1 == some .cell || env.kindOf p.1 == some .free)) = true → (∀ n a, acc.lookup n = some a → env.cells.lookup n = some a ∧ (n, NameKind.free) ∈ scope.names) → (∀ p ∈ names, p ∈ scope.names) →
      ∃ cl, (forIn names acc fun (x : Str × NameKind) r => (match x with | (name, kind) => if (kind == .free) = true then do let a ← cellOf env name; pure (ForInStep.yield ((name, a) :: r)) else pure (ForInStep.yield r) : Sem (ForInStep (List (Str × Addr))))) = pure cl ∧
        (∀ n, (n, NameKind.free) ∈ names ∨ (∃ a, acc.lookup n = some a) → ∃ a, cl.lookup n = some a) ∧ (∀ n a, cl.lookup n = some a → env.cells.lookup n = some a ∧ (n, NameKind.free) ∈ scope.names) := by
    intro names
    induction names with
    | nil => intro acc _ ha _; exact ⟨acc, rfl, fun n h => by rcases h with h | h; cases h; exact h, ha⟩
    | cons p r ih =>
      intro acc h ha hsub
      obtain ⟨name, kind⟩ := p
      rw [List.all_cons, Bool.and_eq_true] at h
      obtain ⟨h1, h2⟩ := h
      have hsub' : ∀ p ∈ r, p ∈ scope.names := fun p hp => hsub p (List.mem_cons_of_mem _ hp)
      rw [List.forIn_cons]
      by_cases hk : (kind == NameKind.free) = true
      · have hk' : kind = .free := by simpa using hk
        subst hk'
        obtain ⟨a, e⟩ : ∃ a, env.cells.lookup name = some a := hh name (by simpa using h1)
        have e2 : cellOf env name = pure a := by unfold cellOf; rw [e]
        obtain ⟨cl, q1, q2, q3⟩ := ih ((name, a) :: acc) h2 (fun n b q => by
          rw [List.lookup_cons] at q
          cases hb : n == name with
          | true => rw [hb] at q; cases q; rw [beq_iff_eq.mp hb]; exact ⟨e, hsub _ List.mem_cons_self⟩
          | false => rw [hb] at q; exact ha n b q) hsub'
        refine ⟨cl, ?_, fun n q => q2 n ?_, q3⟩
        · simp only [beq_self_eq_true, if_true, e2, pure_bind]; exact q1
        · rcases q with q | ⟨b, q⟩
          · rcases List.mem_cons.mp q with z | z
            · cases z; exact .inr ⟨a, by simp⟩
            · exact .inl z
          · refine .inr ?_
            rw [List.lookup_cons]; split
            · exact ⟨_, rfl⟩
            · exact ⟨b, q⟩
      · obtain ⟨cl, q1, q2, q3⟩ := ih acc h2 ha hsub'
        refine ⟨cl, ?_, fun n q => q2 n ?_, q3⟩
        · simp only [Bool.not_eq_true] at hk
          simp only [hk, Bool.false_eq_true, if_false, pure_bind]; exact q1
        · rcases q with q | q
          · rcases List.mem_cons.mp q with z | z
            · cases z; simp at hk
            · exact .inl z
          · exact .inr q
  obtain ⟨cl, q1, q2, q3⟩ := main scope.names [] hf (fun n a e => by simp at e) fun p hp => hp
  refine ⟨cl, ?_, fun n h => q2 n (.inl h), q3⟩
  unfold closureFor
  simp only [q1, pure_bind]

/-- a list comprehension of one clause -/
theorem ev_comp (src : Src c k env ρ μ iter ds) (tests : ∀ C cl d, d ∈ ds → Tests c k (cenvOf scope env C cl) ((x, d) :: capt scope ρ) ifs (p d))
    (elts : ∀ C cl d, d ∈ ds → p d = true → Ev c k (cenvOf scope env C cl) ((x, d) :: capt scope ρ) [] elt (f d)) (hlen : ds.length ≤ 16777216)
    (ok : compOk scope env x = true := by rfl) (hs : ∀ x, foldedSetIterable iter env x = pure x := by intro _; rfl) : Ev c k env ρ μ (.ListComp elt [⟨.Name x px, iter, ifs, 0⟩] scope pos) (.list ((ds.filter p).map f)) := by
  intro X A s hA R E
  have ok' := CompOk.of ok
  obtain ⟨cl, hclos, hcl1, hcl2⟩ := closureFor_free R.ok.has ok'.free
  rw [eval_ListComp]
  refine wpAny_comprehension_free (use := none) rfl hs hclos ok'.kind ok'.names (wpAny_mono (src X A s E hA R) (fun xv s₁ h₁ => wpAny_mono h₁ (fun it s₂ h₂ => ?_) fun _ _ e => e) fun _ _ e => e)
  obtain ⟨I, fp, wr, P, W, rfl, O⟩ := h₂
  refine comp_core (RR := fun acc C => compPost (model c.prog c.w) A E none (fun v s' => Kp s s' ∧ Rd X s'.heap v (.list ((ds.filter p).map f))) acc C) hA R O ok' hlen hcl1 hcl2 tests elts ?_
  rintro D C s' hD hC hDC ⟨m, hn⟩ hr hk
  refine ⟨m, hn, fun h' hs' => ⟨?_, (hr.but (.inr rfl) hs').weak fun a h => .inl h⟩⟩
  have hCs : s.heap.get? C = none := by
    refine none_of fun o e => ?_
    first | exact (no1 (O.kp.sub C o e) hC).elim | exact (no1 hC (O.kp.sub C o e)).elim | (rw [O.kp.sub C o e] at hC; cases hC)
  exact ⟨fun b o e => hs'.extBut b o (fun q => by rw [q, hCs] at e; cases e) (hk.sub b o e), hk.same.trans ⟨rfl, rfl⟩⟩

/-- the same, stored at once (the comprehension and its target on one line) -/
theorem ex_assign_comp {Q : Out → Vars → Mem → Prop} {y : Str} {py spos : Pos} (src : Src c k env ρ μ iter ds) (tests : ∀ C cl d, d ∈ ds → Tests c k (cenvOf scope env C cl) ((x, d) :: capt scope ρ) ifs (p d))
    (elts : ∀ C cl d, d ∈ ds → p d = true → Ev c k (cenvOf scope env C cl) ((x, d) :: capt scope ρ) [] elt (f d)) (hlen : ds.length ≤ 16777216)
    (h : Q .next ((y, .list ((ds.filter p).map f)) :: ρ) μ)
    (hsw : swapsWith (.ListComp elt [⟨.Name x px, iter, ifs, 0⟩] scope pos) (some (.Name y py)) spos.line env = pure true := by rfl) (hy : stor env y = true := by rfl)
    (ok : compOk scope env x = true := by rfl) (hs : ∀ x, foldedSetIterable iter env x = pure x := by intro _; rfl) :
    Ex1 c k env ρ μ (.Assign [.Name y py] (.ListComp elt [⟨.Name x px, iter, ifs, 0⟩] scope pos) spos) Q := by
  intro X₀ A s E hA S
  have R := S.rc
  have ok' := CompOk.of ok
  obtain ⟨cl, hclos, hcl1, hcl2⟩ := closureFor_free R.ok.has ok'.free
  rw [exec_Assign_Name_used _ _ _ _ hsw]
  refine wpAny_bind (wpAny_standAt (wpAny_bind ?_))
  show wpAny _ A (do let _ ← comprehension (.ListComp elt [⟨.Name x px, iter, ifs, 0⟩] scope pos) scope env _ (newList []) false (eval iter env) (some (assign (.Name y py) env))) _ _ s
  refine wpAny_bind (wpAny_mono (wpAny_comprehension_free (use := some (assign (.Name y py) env)) (Q := fun _ s' => Post c X₀ env μ s Q .next s') rfl hs hclos ok'.kind ok'.names
    (wpAny_mono (src _ A s E hA R) (fun xv s₁ h₁ => wpAny_mono h₁ (fun it s₂ h₂ => ?_) fun _ _ e => e) fun _ _ e => e)) (fun _ s' hq => wpAny_pure (wpAny_pure hq)) fun _ _ e => e)
  obtain ⟨I, fp, wr, P, W, rfl, O⟩ := h₂
  refine comp_core (RR := fun acc C => compPost (model c.prog c.w) A E (some (assign (.Name y py) env)) (fun _ s' => Post c X₀ env μ s Q .next s') acc C) hA R O ok' hlen hcl1 hcl2 tests elts ?_
  rintro D C s' hD hC hDC ⟨m, hn⟩ hr hk
  have hCs : s.heap.get? C = none := by
    refine none_of fun o e => ?_
    first | exact (no1 (O.kp.sub C o e) hC).elim | exact (no1 hC (O.kp.sub C o e)).elim | (rw [O.kp.sub C o e] at hC; cases hC)
  have hCM : ¬ Mut env μ C := fun q => by obtain ⟨o, e⟩ := S.live' q; first | exact (no1 (hCs) e).elim | exact (no1 e (hCs)).elim | (rw [hCs] at e; cases e)
  have hCX : ¬ X₀ C := fun q => by obtain ⟨o, e⟩ := S.live C q; first | exact (no1 (hCs) e).elim | exact (no1 e (hCs)).elim | (rw [hCs] at e; cases e)
  have hCb : c.base.get? C = none := by
    refine none_of fun o e => ?_
    first | exact (no1 (S.base C o e) hCs).elim | exact (no1 hCs (S.base C o e)).elim | (rw [S.base C o e] at hCs; cases hCs)
  show wpAny _ A (assign (.Name y py) env (.ref D)) _ _ _
  have S' : St c (fun a => X₀ a ∨ a ∈ [C]) env ρ μ s' := S.addX hk (fun b hb => by simp at hb; subst hb; exact hCs) (fun b hb => by simp at hb; subst hb; obtain ⟨o, _, _, e, _⟩ := hn; exact ⟨o, e⟩)
  refine wpAny_assign_Name (st_store S' hy (hr.mono fun a o n e => ⟨?_, e⟩) fun s₃ S₃ g₃ => ?_)
  · rintro ((q | q) | q)
    · exact n (.inl (.inl q))
    · simp at q; exact n (.inr q)
    · exact n (.inl (.inr q))
  · refine ⟨m, ?_, fun h' hs' => ?_⟩
    · obtain ⟨o, es, ep, e, r⟩ := hn
      exact ⟨o, es, ep, g₃.keep C o hCM e, r⟩
    · have kk : ∀ b o, b ∉ [C] → s₃.heap.get? b = some o → ({ s₃ with heap := h' } : Shared).heap.get? b = some o := fun b o w e => hs'.extBut b o (by simpa using w) e
      refine ⟨.next, _, μ, trivial, S₃.dropX kk (fun b hb => by simp at hb; subst hb; exact hCX) (fun b hb => by simp at hb; subst hb; exact hCM) (fun b hb => by simp at hb; subst hb; exact hCb), ?_, h⟩
      have g := (Go.of_kp (env := env) (μ := μ) hk).trans g₃
      have nC : ∀ b o, s.heap.get? b = some o → b ∉ [C] := fun b o e q => by simp at q; rw [q, hCs] at e; cases e
      refine ⟨g.same.trans ⟨rfl, rfl⟩, fun a o n e => kk a o (nC a o e) (g.keep a o n e), fun a o e => ?_, g.grow⟩
      · obtain ⟨o', e'⟩ := g.alive a o e
        exact ⟨o', kk a o' (nC a o e) e'⟩
end
end Mine
end

/-! # M6 -/
section
set_option autoImplicit false
namespace Mine
open PySem PySem.Calls PyProof.Rows

def paramsOf : Stmt → Arguments
  | .FunctionDef _ args _ _ _ _ _ _ _ _ => args
  | _ => default
def bodyOf : Stmt → List Stmt
  | .FunctionDef _ _ body _ _ _ _ _ _ _ => body
  | _ => []
def scopeOf : Stmt → Scope
  | .FunctionDef _ _ _ _ _ _ scope _ _ _ => scope
  | _ => default
def namesOf (st : Stmt) : List Str := (paramsOf st).args.map (·.arg)

def fnD (st : Stmt) (nm qn : Str) (doc pm : Value) (an : Option Addr) (cdv ct : Value) : FuncData :=
  { name := nm, qualname := qn, params := paramsOf st, body := .stmts (bodyOf st), scope := scopeOf st, globals := mainGlobals, closure := [], defaults := .none, kwdefaults := .none, doc := doc, pyModule := pm, annotations := an, code := cdv, closureTuple := ct, builtins := builtinsNs }

/-- the def st stands at f -/
def FnAt (c : Cx) (f : Addr) (st : Stmt) : Prop :=
  ∃ o nm qn doc pm an cdv ct, c.base.get? f = some o ∧ o.data = .func (fnD st nm qn doc pm an cdv ct) ∧ c.base.CodeRec cdv qn

def fenv (st : Stmt) (qn : Str) (cdv : Value) (L f : Addr) : Env :=
  { scope := scopeOf st, locals := L, globals := mainGlobals, cells := cellsFrom (L + 1) (scopeOf st).names [], qual := qn ++ ".<locals>.", func := some f, code := cdv, frame := some L, builtins := builtinsNs }

def fnOk (st : Stmt) : Bool := ((scopeOf st).kind == .function) && !(scopeOf st).isCoroutine && !(scopeOf st).isGenerator && ((scopeOf st).names.all fun p => p.2 != .free) &&
  ((namesOf st).all fun n => (scopeOf st).names.lookup n == some .local || (scopeOf st).names.lookup n == some .cell)

/-- a call of f with these gives that; the old heap is kept -/
def Fn (c : Cx) (k : Nat) (f : Addr) (ds : List D) (r : D) : Prop :=
  ∀ X A s vs, Room k A → Sub c.base s.heap → (∀ a, X a → ∃ o, s.heap.get? a = some o) → RdAll X s.heap vs ds → Gives c X A (call (.ref f) vs) r s

def Binds (st : Stmt) (n : Nat) : Prop := ∀ nm qn doc pm an cdv ct (vs : List Value), vs.length = n → bindArgs (fnD st nm qn doc pm an cdv ct) ⟨vs, []⟩ = pure ((namesOf st).zip vs)

theorem bindL_eq {kindOf : Str → Option NameKind} {x : Str} (hk : kindOf x = some .local) : ∀ (binds : List (Str × Value)) (m : Str → Option Value), bindL kindOf binds m x = (binds.reverse.lookup x).or (m x)
  | [], m => by simp [bindL]
  | (n, v) :: r, m => by
    rw [bindL, bindL_eq hk r, List.reverse_cons, List.lookup_append]
    cases r.reverse.lookup x with
    | some u => simp
    | none =>
      simp only [Option.none_or]
      by_cases hx : x = n
      · subst hx; rw [if_pos hk]; simp
      · have : (x == n) = false := by simpa using hx
        simp only [List.lookup_cons, this, List.lookup_nil, Option.none_or]
        split
        · simp [hx]
        · rfl
theorem bindC_eq {kindOf : Str → Option NameKind} {x : Str} (hk : kindOf x ≠ some .local) : ∀ (binds : List (Str × Value)) (m : Str → Option Value), bindC kindOf binds m x = (binds.reverse.lookup x).or (m x)
  | [], m => by simp [bindC]
  | (n, v) :: r, m => by
    rw [bindC, bindC_eq hk r, List.reverse_cons, List.lookup_append]
    cases r.reverse.lookup x with
    | some u => simp
    | none =>
      simp only [Option.none_or]
      by_cases hx : x = n
      · subst hx; rw [if_neg hk]; simp
      · have : (x == n) = false := by simpa using hx
        simp only [List.lookup_cons, this, List.lookup_nil, Option.none_or]
        split
        · rfl
        · simp [hx]

def LookRel (X : Addr → Prop) (h : Heap) : Option Value → Option D → Prop
  | some v, some d => Rd X h v d
  | none, none => True
  | _, _ => False
theorem zip_rel {X : Addr → Prop} {h : Heap} {x : Str} : ∀ {names : List Str} {vs : List Value} {ds : List D}, RdAll X h vs ds → LookRel X h ((names.zip vs).reverse.lookup x) ((names.zip ds).reverse.lookup x)
  | [], _, _, _ => by simp [LookRel]
  | _ :: _, _, _, .nil => by simp [LookRel]
  | n :: ns, _, _, .cons (v := v) (vs := vs) (d := d) (ds := ds) a r => by
    rw [List.zip_cons_cons, List.zip_cons_cons, List.reverse_cons, List.reverse_cons, List.lookup_append, List.lookup_append]
    have ih := @zip_rel X h x ns _ _ r
    generalize (ns.zip vs).reverse.lookup x = p at ih
    generalize (ns.zip ds).reverse.lookup x = q at ih
    cases p <;> cases q <;> first | exact ih.elim | skip
    · simp only [Option.none_or, List.lookup_cons, List.lookup_nil]
      cases hm : x == n
      · trivial
      · exact a
    · exact ih
theorem zip_look {X : Addr → Prop} {h : Heap} {x : Str} {d : D} {names : List Str} {vs : List Value} {ds : List D} (r : RdAll X h vs ds) (e : (names.zip ds).reverse.lookup x = some d) : ∃ v, (names.zip vs).reverse.lookup x = some v ∧ Rd X h v d := by
  have q := zip_rel (x := x) (names := names) r
  rw [e] at q
  cases p : (names.zip vs).reverse.lookup x with
  | none => rw [p] at q; exact q.elim
  | some v => rw [p] at q; exact ⟨v, rfl, q⟩

def retOf : Out → D
  | .ret d => d
  | _ => .none

theorem fn_enter {c : Cx} {k : Nat} {f : Addr} {st : Stmt} {ds : List D} (hf : FnAt c f st) (hb : Binds st ds.length) (ok : fnOk st = true) {X : Addr → Prop} {A : Around} {s : Shared} {vs : List Value} {R : Result → Shared → Prop}
    (hA : Room (k + 1) A) (hbase : Sub c.base s.heap) (hlive : ∀ a, X a → ∃ o, s.heap.get? a = some o) (hvs : RdAll X s.heap vs ds)
    (h : ∀ qn cdv L s₁, St c X (fenv st qn cdv L f) ((namesOf st).zip ds).reverse [] s₁ → Kp s s₁ → (∀ a, Mut (fenv st qn cdv L f) [] a → s.heap.get? a = none) → Room k (A.deeper (fenv st qn cdv L f)) →
      wpAny (model c.prog c.w) (A.deeper (fenv st qn cdv L f)) (execs (bodyOf st) (fenv st qn cdv L f)) (fun fl s' => R (.ok (.ret (match fl with | .ret v => v | _ => .none))) s')
        (fun e s' => wpAny (model c.prog c.w) (A.deeper (fenv st qn cdv L f)) (leaving (fenv st qn cdv L f) e) (fun _ s'' => R (.error e) s'') (fun e' s'' => R (.error e') s'') s') s₁) :
    codeAny (model c.prog c.w) A (.call (.ref f) ⟨vs, []⟩) R s := by
  obtain ⟨o, nm, qn, doc, pm, an, cdv, ct, ho, hd, hcd⟩ := hf
  unfold fnOk at ok
  simp only [Bool.and_eq_true, beq_iff_eq, Bool.not_eq_true', List.all_eq_true, Bool.or_eq_true, bne_iff_ne] at ok
  obtain ⟨⟨⟨⟨k1, k2⟩, k3⟩, k4⟩, k5⟩ := ok
  have hlen := hvs.length
  have hsize : ∀ a : Nat, s.heap.objs.size ≤ a → s.heap.get? a = none := fun a ha => by
    refine none_of fun o e => ?_
    exact absurd (Heap.lt_size e) (Nat.not_lt.mpr ha)
  refine codeAny_call_cells (binds := (namesOf st).zip vs) (body := bodyOf st) (by have := hA.depth; omega) (hbase f o ho) hd (c.nolimit.keeps hbase) (hcd.keeps hbase) rfl (hb nm qn doc pm an cdv ct vs hlen) rfl (fun x hx => ?_) (fun s₁ I => ?_) k2 k3 k1
  · have hm : x.1 ∈ namesOf st := (List.of_mem_zip (a := x.1) (b := x.2) hx).1
    rcases k5 x.1 hm with q | q
    · exact .inl q
    · obtain ⟨a, ha⟩ := cf_has (scopeOf st).names (s.heap.objs.size + 1) [] x.1 (.inl (mem_lookup q))
      exact .inr ⟨q, by show ((cellsFrom _ (scopeOf st).names []).lookup x.1).isSome = true; rw [ha]; rfl⟩
  · have he : callEnvC (fnD st nm qn doc pm an cdv ct) s.heap.objs.size f = fenv st qn cdv s.heap.objs.size f := rfl
    rw [he] at I ⊢
    have I' := I.toInCall
    have hk₁ : Sub s.heap s₁.heap := I'.keep
    have newM : ∀ a, Mut (fenv st qn cdv s.heap.objs.size f) [] a → s.heap.get? a = none := fun a m => by
      rcases m with m | ⟨n, m⟩ | ⟨_, m⟩
      · exact hsize a (Nat.le_of_eq (Eq.symm m))
      · exact hsize a (Nat.le_of_lt (I.above n a (mem_of_lookup m)))
      · cases m
    have S₁ : St c X (fenv st qn cdv s.heap.objs.size f) ((namesOf st).zip ds).reverse [] s₁ := by
      refine ⟨⟨k1, rfl, rfl, fun n hn => ?_⟩, hbase.trans hk₁, fun a m => ?_, fun a h => ?_, ⟨_, I'.ns⟩, fun n a e => ⟨_, I.cell n a e⟩, fun n n' a e e' => ?_, fun x d e => ?_, fun a ds m => (nomatch m), List.nodup_nil, fun _ _ m => (nomatch m)⟩
      · rcases hn with q | q
        · exact cf_has _ _ _ _ (.inl (mem_lookup q))
        · exact absurd rfl (k4 _ (mem_lookup q))
      · refine none_of fun o e => ?_
        have := newM a m; first | exact (no1 (hbase a o e) this).elim | exact (no1 this (hbase a o e)).elim | (rw [hbase a o e] at this; cases this)
      · exact (hlive a h).imp fun o e => hk₁ a o e
      · exact name_of_addr I.apart (mem_of_lookup e) (mem_of_lookup e')
      · obtain ⟨v, e1, e2⟩ := zip_look hvs e
        refine ⟨v, ?_, e2.mono fun a o n q => ⟨?_, hk₁ a o q⟩⟩
        · have hx : x ∈ namesOf st := by
            have : (x, v) ∈ ((namesOf st).zip vs).reverse := mem_of_lookup e1
            exact (List.of_mem_zip (List.mem_reverse.mp this)).1
          rcases k5 x hx with q | q
          · exact .inl ⟨q, _, I'.ns, by rw [bindL_eq q, e1]; rfl⟩
          · obtain ⟨a, ha⟩ := cf_has (scopeOf st).names (s.heap.objs.size + 1) [] x (.inl (mem_lookup q))
            refine .inr ⟨.inl q, a, ha, ?_⟩
            have := I.cell x a ha
            have hnl : (fenv st qn cdv s.heap.objs.size f).kindOf x ≠ some .local := by
              show (scopeOf st).names.lookup x ≠ _
              rw [q]; decide
            rw [bindC_eq hnl, e1] at this
            exact this
        · rintro (y | y)
          · exact n y
          · first | exact (no1 (newM a y) q).elim | exact (no1 q (newM a y)).elim | (rw [newM a y] at q; cases q)
    refine h qn cdv s.heap.objs.size s₁ S₁ ⟨hk₁, ?_⟩ newM (hA.deeper _)
    obtain ⟨h1, t1, e1⟩ := I'.same
    exact ⟨by rw [e1], by rw [e1]⟩

/-- what a body's end says to its caller -/
theorem Go.kp_of {env : Env} {s s₁ s₂ : Shared} {μ : Mem} (k : Kp s s₁) (newM : ∀ a, Mut env [] a → s.heap.get? a = none) (g : Go env [] s₁ μ s₂) : Kp s s₂ :=
  ⟨fun b o e => g.keep b o (fun m => by first | exact (no1 (newM b m) e).elim | exact (no1 e (newM b m)).elim | (rw [newM b m] at e; cases e)) (k.sub b o e), k.same.trans g.same⟩

theorem fn_of {c : Cx} {k : Nat} {f : Addr} {st : Stmt} {ds : List D} {r : D} (hf : FnAt c f st) (hb : Binds st ds.length)
    (h : ∀ qn cdv L, Ex c k (fenv st qn cdv L f) ((namesOf st).zip ds).reverse [] (bodyOf st) (fun o _ _ => retOf o = r)) (ok : fnOk st = true := by rfl) : Fn c (k + 1) f ds r := by
  intro X A s vs hA hbase hlive hvs E
  refine wpAny_call (fn_enter hf hb ok hA hbase hlive hvs fun qn cdv L s₁ S₁ k₁ newM hA' => ?_)
  refine wpAny_mono (h qn cdv L X _ s₁ _ hA' S₁) (fun fl s₂ p => ?_) fun _ _ e => e
  obtain ⟨o', ρ', μ', a, S₂, g, q⟩ := p
  refine ⟨g.kp_of k₁ newM, ?_⟩
  subst q
  cases fl <;> cases o' <;> first | exact a.elim | skip
  · exact .none
  · exact .none
  · exact .none
  · exact Rd.weak a fun _ h => .inl h
end Mine
end

/-! # M7 -/
section
set_option autoImplicit false
namespace Mine
open PySem PySem.Calls PyProof.Rows

/-! ## arguments and calls -/
def notStar : Expr → Bool
  | .Starred .. => false
  | _ => true
theorem starEach_cons {e : Expr} {rest : List Expr} {env : Env} (h : notStar e = true) : starEach (e :: rest) env = (false, eval e env) :: starEach rest env := by
  cases e <;> first | rfl | cases h

section
variable {c : Cx} {k : Nat} {env : Env} {ρ : Vars} {μ : Mem}

inductive EvAll (c : Cx) (k : Nat) (env : Env) (ρ : Vars) (μ : Mem) : List Expr → List D → Prop
  | nil : EvAll c k env ρ μ [] []
  | cons {e es d ds} : Ev c k env ρ μ e d → EvAll c k env ρ μ es ds → notStar e = true → EvAll c k env ρ μ (e :: es) (d :: ds)

theorem evAll_plain {args : List Expr} {ds : List D} (h : EvAll c k env ρ μ args ds) (pos : Pos) : (backTo pos (starEach args env)).any (·.1) = false := by
  induction h with
  | nil => rfl
  | cons _ _ hs ih => rw [starEach_cons hs]; simpa [backTo] using ih

theorem evAll {args : List Expr} {ds : List D} (h : EvAll c k env ρ μ args ds) (pos : Pos) : ∀ X A s E, Room k A → Rc c X env ρ μ s →
    wpAny (model c.prog c.w) A (spliced (backTo pos (starEach args env))) (fun vs s' => Kp s s' ∧ RdAll X s'.heap vs ds) E s := by
  induction h with
  | nil => exact fun _ _ s _ _ _ => args_nil ⟨Kp.refl s, .nil⟩
  | cons he _ hs ih =>
    intro X A s E hA R
    refine args_cons (gives_bind (he X A s hA R) fun v s₁ k₁ r₁ => ?_) (starEach_cons hs)
    refine wpAny_mono (ih X A s₁ E hA (R.keep k₁.sub)) (fun vs s₂ q => ⟨k₁.trans q.1, .cons (r₁.keep q.1.sub) q.2⟩) fun _ _ e => e

theorem name_global {x : Str} {px : Pos} {v : Value} {X : Addr → Prop} {A : Around} {s : Shared} {Q : Value → Shared → Prop} {E : Value → Shared → Prop} (R : Rc c X env ρ μ s) (hx : env.kindOf x = some .globalImplicit) (hg : c.mg x = some v)
    (h : Q v s) (hd : (x == ("__debug__" : Str)) = false) : wpAny (model c.prog c.w) A (eval (.Name x px) env) Q E s :=
  Name_function_global R.ok.kind hx (loadGlobal_global (env := env) (by rw [R.ok.globals]; exact c.g.keeps R.base) hg h) hd
theorem name_builtin {x : Str} {px : Pos} {v : Value} {X : Addr → Prop} {A : Around} {s : Shared} {Q : Value → Shared → Prop} {E : Value → Shared → Prop} (R : Rc c X env ρ μ s) (hx : env.kindOf x = some .globalImplicit) (hg : c.mg x = none)
    (hb : bootBuiltins x = some v) (hn : x ≠ "__name__") (h : Q v s) (hd : (x == ("__debug__" : Str)) = false) : wpAny (model c.prog c.w) A (eval (.Name x px) env) Q E s :=
  Name_function_global R.ok.kind hx (loadGlobal_builtin (env := env) (by rw [R.ok.globals]; exact c.g.keeps R.base) hg (by rw [R.ok.builtins]; exact c.b.keeps R.base) ((c.builtins x hn).trans hb) h) hd

theorem callWith_first {f : Value} {first : List Value} {args : List Expr} {ds : List D} {pos : Pos} {X : Addr → Prop} {A : Around} {s : Shared} {Q : Value → Shared → Prop} {E : Value → Shared → Prop} (R : Rc c X env ρ μ s) (hA : Room k A) (ha : EvAll c k env ρ μ args ds)
    (hk : ∀ s', Kp s s' → ∃ kk, (kk = Keeper.frame ∨ kk = Keeper.machine) ∧ ∀ (Q' : Keeper → Shared → Prop), Q' kk s' → wpAny (model c.prog c.w) A (keeperOf f) Q' E s') (hne : args ≠ [])
    (h : ∀ vs s', Kp s s' → RdAll X s'.heap vs ds → wpAny (model c.prog c.w) A (call f (first ++ vs)) Q E s') : wpAny (model c.prog c.w) A (callWith pos f first (backTo pos (starEach args env)) []) Q E s := by
  have hpl := evAll_plain ha pos
  have hev := evAll ha pos X A s E hA R
  unfold callWith
  have hargs : wpAny (model c.prog c.w) A (evalArgs f true (backTo pos (starEach args env)) []) (fun a s' => a.kw = [] ∧ Kp s s' ∧ RdAll X s'.heap a.pos ds) E s := by
    cases ha with
    | nil => exact absurd rfl hne
    | cons he hr hs =>
      rw [starEach_cons hs] at hev ⊢
      exact evalArgs_plain (wpAny_mono hev (fun vs s' q => ⟨rfl, q.1, q.2⟩) fun _ _ e => e)
  refine wpAny_bind (wpAny_holding (wpAny_mono hargs (fun a s₁ h₁ => wpAny_bind (wpAny_standAt ?_)) fun _ _ x => x))
  obtain ⟨pos', kw⟩ := a
  obtain ⟨rfl, k₁, r₁⟩ := h₁
  simp only [hpl, List.any_nil, Bool.or_false]
  obtain ⟨kk, hkk, hq⟩ := hk s₁ k₁
  refine wpAny_bind (hq _ ?_)
  have hc := h pos' s₁ k₁ r₁
  have tail : ∀ {t : Sem Value}, wpAny (model c.prog c.w) A t Q E s₁ → wpAny (model c.prog c.w) A (t >>= fun r => holding [r] point >>= fun _ => pure r) Q E s₁ :=
    fun ht => wpAny_bind (wpAny_mono ht (fun r s₂ hr => wpAny_bind (wpAny_holding (wpAny_point (wpAny_pure hr)))) fun _ _ x => x)
  rcases hkk with rfl | rfl
  · dsimp only
    split
    · exact tail hc
    · exact tail (by unfold callMarked; exact wpAny_keep hc)
  · exact tail hc

theorem callWith_plain {f : Value} {args : List Expr} {ds : List D} {pos : Pos} {X : Addr → Prop} {A : Around} {s : Shared} {Q : Value → Shared → Prop} {E : Value → Shared → Prop} (R : Rc c X env ρ μ s) (hA : Room k A) (ha : EvAll c k env ρ μ args ds)
    (hk : ∀ s', Kp s s' → ∃ kk, (kk = Keeper.frame ∨ kk = Keeper.machine) ∧ ∀ (Q' : Keeper → Shared → Prop), Q' kk s' → wpAny (model c.prog c.w) A (keeperOf f) Q' E s') (hne : args ≠ [])
    (h : ∀ vs s', Kp s s' → RdAll X s'.heap vs ds → wpAny (model c.prog c.w) A (call f vs) Q E s') : wpAny (model c.prog c.w) A (callWith pos f [] (backTo pos (starEach args env)) []) Q E s :=
  callWith_first (first := []) R hA ha hk hne h

/-- a call of a def of the text -/
theorem ev_call {x : Str} {px pos : Pos} {f : Addr} {st : Stmt} {args : List Expr} {ds : List D} {r : D} (hg : c.mg x = some (.ref f)) (hf : FnAt c f st) (ha : EvAll c k env ρ μ args ds) (hF : Fn c k f ds r) (hne : args ≠ [] := by intro h; cases h)
    (hx : env.kindOf x = some .globalImplicit := by rfl) (hd : (x == ("__debug__" : Str)) = false := by decide) : Ev c k env ρ μ (.Call (.Name x px) args [] pos) r := by
  intro X A s hA R E
  refine Call_ (name_global R hx hg ?_ hd)
  obtain ⟨o, nm, qn, doc, pm, an, cdv, ct, ho, hd', hcd⟩ := hf
  refine callWith_plain R hA ha (fun s' k' => ⟨.frame, .inl rfl, fun Q' hq => ?_⟩) hne fun vs s₁ k₁ r₁ => ?_
  · unfold keeperOf
    refine wpAny_bind (wpAny_load (k'.sub _ _ (R.base _ _ ho)) ?_)
    rw [hd']; exact wpAny_pure hq
  · have R₁ := R.keep k₁.sub
    exact gives_after (hF X A s₁ vs hA R₁.base R₁.live r₁) k₁

theorem ev_callB {x : Str} {px pos : Pos} {id : String} {args : List Expr} {ds : List D} {r : D} (hg : c.mg x = none) (hb : bootBuiltins x = some (.builtin id)) (ha : EvAll c k env ρ μ args ds)
    (hF : ∀ X A s vs, Room k A → (∀ a, X a → ∃ o, s.heap.get? a = some o) → RdAll X s.heap vs ds → Gives c X A (call (.builtin id) vs) r s) (hn : x ≠ "__name__" := by decide) (hne : args ≠ [] := by intro h; cases h)
    (hx : env.kindOf x = some .globalImplicit := by rfl) (hd : (x == ("__debug__" : Str)) = false := by decide) : Ev c k env ρ μ (.Call (.Name x px) args [] pos) r := by
  intro X A s hA R E
  refine Call_ (name_builtin R hx hg hb hn ?_ hd)
  refine callWith_plain R hA ha (fun s' k' => ⟨.machine, .inr rfl, fun Q' hq => wpAny_pure hq⟩) hne fun vs s₁ k₁ r₁ => ?_
  exact gives_after (hF X A s₁ vs hA (R.keep k₁.sub).live r₁) k₁
theorem new_notX {X : Addr → Prop} {s : Shared} (hl : ∀ a, X a → ∃ o, s.heap.get? a = some o) : ¬ X s.heap.objs.size := fun h => by
  obtain ⟨o, e⟩ := hl _ h
  exact Nat.lt_irrefl _ (Heap.lt_size e)

/-- len of a list -/
theorem ev_len {x : Str} {px pos : Pos} {e : Expr} {ds : List D} (hg : c.mg x = none) (hb : bootBuiltins x = some (.builtin "len")) (he : Ev c k env ρ μ e (.list ds)) (hlen : ds.length ≤ 16777216) (hs : notStar e = true := by rfl) (hn : x ≠ "__name__" := by decide)
    (hx : env.kindOf x = some .globalImplicit := by rfl) (hd : (x == ("__debug__" : Str)) = false := by decide) : Ev c k env ρ μ (.Call (.Name x px) [e] [] pos) (.int ds.length) :=
  ev_callB hg hb (.cons he .nil hs) (fun X A s vs hA _ r E => by
    cases r with
    | cons r1 r2 =>
      cases r2
      cases r1 with
      | list hX ho hc hd hr =>
        rename_i a o vs n
        have hl : vs.size = ds.length := by have := hr.length; simpa using this
        refine call_len_list ⟨o, ho, hc, n, hd⟩ (by rw [hl]; omega) ⟨Kp.tok s _, ?_⟩
        rw [hl]; exact .int _ _) hn (by intro h; cases h) hx hd

/-- a display -/
theorem ev_list {args : List Expr} {ds : List D} {pos : Pos} (ha : EvAll c k env ρ μ args ds) (hlen : ds.length ≤ 16777216) : Ev c k env ρ μ (.List args pos) (.list ds) := by
  intro X A s hA R E
  refine List_ (wpAny_mono (evAll ha pos X A s E hA R) (fun vs s₁ q => ?_) fun _ _ e => e)
  have hv := q.2.length
  refine wpAny_newObj_type ⟨q.1.trans (Kp.push s₁ _ _), ?_⟩ (by show vs.toArray.size ≤ sizeLine; rw [List.size_toArray, hv, sizeLine_eq]; exact hlen)
  exact .list (new_notX (R.keep q.1.sub).live) (Heap.get?_push_size _ rfl) rfl rfl (by simpa using q.2.keep fun _ _ e => Heap.get?_push_of_some _ e)
end
end Mine
end

/-! # M8 -/
section
set_option autoImplicit false
namespace Mine
open PySem PySem.Calls PyProof.Rows

/-! ## data as the kit reads it -/
mutual
def toPy : D → PyData
  | .none => .none
  | .bool b => .bool b
  | .int i => .int i
  | .str x => .str x
  | .tuple ds => .tuple (toPys ds)
  | .list ds => .list (toPys ds)
  | .raw _ => .none
  | .inst _ _ _ => .none
def toPys : List D → List PyData
  | [] => []
  | d :: ds => toPy d :: toPys ds
end
mutual
def noRaw : D → Bool
  | .tuple ds => noRaws ds
  | .list ds => noRaws ds
  | .raw _ => false
  | .inst _ _ _ => false
  | _ => true
def noRaws : List D → Bool
  | [] => true
  | d :: ds => noRaw d && noRaws ds
end
theorem Rd.reads {X : Addr → Prop} {h : Heap} {v : Value} {d : D} (r : Rd X h v d) : noRaw d = true → ∃ as, Reads h v (toPy d) as :=
  Rd.rec (motive_1 := fun v d _ => noRaw d = true → ∃ as, Reads h v (toPy d) as) (motive_2 := fun vs ds _ => noRaws ds = true → ∃ as, ReadsAll h vs (toPys ds) as) (fun _ => ⟨_, .none⟩) (fun b _ => ⟨_, .bool b⟩) (fun i t _ => ⟨_, .int i t⟩) (fun x t _ => ⟨_, .str x t⟩) (fun _ hn => nomatch hn)
    (fun _ h1 h2 h3 _ ih hn => let ⟨_, q⟩ := ih hn; ⟨_, .list h1 h2 h3 q⟩) (fun _ h1 h2 h3 _ ih hn => let ⟨_, q⟩ := ih hn; ⟨_, .tuple h1 h2 h3 q⟩) (fun _ _ _ _ _ _ _ _ _ _ hn => nomatch hn) (fun _ => ⟨_, .nil⟩)
    (fun _ _ ih1 ih2 hn => let ⟨_, p⟩ := ih1 (Bool.and_eq_true_iff.mp hn).1; let ⟨_, q⟩ := ih2 (Bool.and_eq_true_iff.mp hn).2; ⟨_, .cons p q⟩) r

/-- a kind of data told by plain data of Lean -/
structure Enc {α : Type} [DecidableEq α] (f : α → D) (n : Nat) : Prop where
  eq : ∀ a b, PyData.eqv (toPy (f a)) (toPy (f b)) = decide (a = b)
  raw : ∀ a, noRaw (f a) = true
  lay : ∀ a, (toPy (f a)).canLay0 = true
  depth : ∀ a, (toPy (f a)).depth ≤ n

theorem enc_int : Enc D.int 0 where
  eq := fun a b => by simp only [toPy, PyData.eqv]; exact Bool.beq_eq_decide_eq a b
  raw := fun _ => rfl
  lay := fun _ => by simp [toPy, PyData.canLay0]
  depth := fun _ => by simp [toPy, PyData.depth]

theorem noRaws_map {α : Type} {f : α → D} (h : ∀ a, noRaw (f a) = true) : ∀ l : List α, noRaws (l.map f) = true
  | [] => rfl
  | a :: l => by simp [noRaws, h a, noRaws_map h l]
theorem lay_map {α : Type} {f : α → D} (h : ∀ a, (toPy (f a)).canLay0 = true) : ∀ l : List α, PyData.canLayAll0 (toPys (l.map f)) = true
  | [] => by simp [toPys, PyData.canLayAll0]
  | a :: l => by simp [toPys, PyData.canLayAll0, h a, lay_map h l]
theorem depth_map {α : Type} {f : α → D} {n : Nat} (h : ∀ a, (toPy (f a)).depth ≤ n) : ∀ l : List α, PyData.depthAll (toPys (l.map f)) ≤ n
  | [] => by simp [toPys, PyData.depthAll]
  | a :: l => by have := h a; have := depth_map h l; simp only [List.map_cons, toPys, PyData.depthAll]; lia
theorem eqv_map {α : Type} [DecidableEq α] {f : α → D} (h : ∀ a b, PyData.eqv (toPy (f a)) (toPy (f b)) = decide (a = b)) : ∀ l m : List α, PyData.eqvAll (toPys (l.map f)) (toPys (m.map f)) = decide (l = m)
  | [], [] => by simp [toPys, PyData.eqvAll]
  | [], _ :: _ => by simp [toPys, PyData.eqvAll]
  | _ :: _, [] => by simp [toPys, PyData.eqvAll]
  | a :: l, b :: m => by
    simp only [List.map_cons, toPys, PyData.eqvAll, h a b, eqv_map h l m]
    by_cases h1 : a = b <;> by_cases h2 : l = m <;> simp [h1, h2]

theorem enc_list {α : Type} [DecidableEq α] {f : α → D} {n : Nat} (h : Enc f n) : Enc (fun l : List α => D.list (l.map f)) (n + 1) where
  eq := fun a b => by simp only [toPy, PyData.eqv]; exact eqv_map h.eq a b
  raw := fun a => by simp only [noRaw]; exact noRaws_map h.raw a
  lay := fun a => by simp only [toPy, PyData.canLay0]; exact lay_map h.lay a
  depth := fun a => by have := depth_map h.depth a; simp only [toPy, PyData.depth]; lia
/-- a list of ints -/
abbrev I (l : List Int) : D := .list (l.map .int)
theorem enc_I : Enc I 1 := enc_list enc_int
/-- a list of lists of ints -/
abbrev II (l : List (List Int)) : D := .list (l.map I)
theorem enc_II : Enc II 2 := enc_list enc_I

section
variable {c : Cx} {k : Nat} {env : Env} {ρ : Vars} {μ : Mem}

theorem cmp_Ne {α : Type} [DecidableEq α] {f : α → D} {n : Nat} (F : Enc f n) (hn : n ≤ 60) {a b : α} {X : Addr → Prop} {A : Around} {s : Shared} {v u : Value} (hA : Room k A) (h1 : Rd X s.heap v (f a)) (h2 : Rd X s.heap u (f b)) : Gives c X A (compareOp .NotEq v u) (.bool (!decide (a = b))) s := fun E => by
  obtain ⟨as, p⟩ := h1.reads (F.raw a)
  obtain ⟨bs, q⟩ := h2.reads (F.raw b)
  refine ne_dataH p q ?_ ?_ (by have := hA.units; lia) ?_
  · unfold SeqAt.shaped; rw [F.lay, Bool.true_and]; exact decide_eq_true (Nat.le_trans (F.depth a) (by lia))
  · unfold SeqAt.shaped; rw [F.lay, Bool.true_and]; exact decide_eq_true (Nat.le_trans (F.depth b) (by lia))
  · rw [F.eq]; exact ⟨Kp.refl s, .bool _⟩
theorem any_map {α : Type} [DecidableEq α] {f : α → D} (h : ∀ a b, PyData.eqv (toPy (f a)) (toPy (f b)) = decide (a = b)) (d : α) : ∀ l : List α, ((toPys (l.map f)).any fun y => PyData.eqv y (toPy (f d))) = decide (d ∈ l)
  | [] => by simp [toPys]
  | a :: l => by
    simp only [List.map_cons, toPys, List.any_cons, h, any_map h d l, List.mem_cons]
    by_cases h1 : a = d
    · simp [h1]
    · have h2 : ¬ d = a := fun e => h1 e.symm
      simp [h1, h2]
theorem cmp_In {α : Type} [DecidableEq α] {f : α → D} {n : Nat} (F : Enc f n) (hn : n ≤ 60) {a : α} {l : List α} {X : Addr → Prop} {A : Around} {s : Shared} {v u : Value} (hA : Room k A) (h1 : Rd X s.heap v (f a)) (h2 : Rd X s.heap u (.list (l.map f))) : Gives c X A (compareOp .In v u) (.bool (decide (a ∈ l))) s := fun E => by
  obtain ⟨as, p⟩ := h1.reads (F.raw a)
  obtain ⟨bs, q⟩ := h2.reads ((enc_list F).raw l)
  rw [toPy] at q
  refine SeqAt.in_list_reads q p (lay_map F.lay l) (F.lay a) ?_ ?_
  · have h3 := F.depth a; have h4 := Nat.min_le_right (PyData.depthAll (toPys (l.map f))) (toPy (f a)).depth; have := hA.units; lia
  · rw [any_map F.eq]; exact ⟨Kp.refl s, .bool _⟩
variable {l r : Expr} {pos : Pos}
theorem cmp_ge {a b : Int} {X : Addr → Prop} {A : Around} {s : Shared} {v u : Value} (h1 : Rd X s.heap v (.int a)) (h2 : Rd X s.heap u (.int b)) : Gives c X A (compareOp .GtE v u) (.bool (decide (b ≤ a))) s := fun E => by
  obtain ⟨_, rfl⟩ := rd_int h1; obtain ⟨_, rfl⟩ := rd_int h2; exact PyProof.Rows.ge_int ⟨Kp.refl s, .bool _⟩

theorem ev_mul {a b : Int} (ha : Ev c k env ρ μ l (.int a)) (hb : Ev c k env ρ μ r (.int b)) (hm : IntMulOk a b) : Ev c k env ρ μ (.BinOp l .Mult r pos) (.int (a * b)) :=
  ev_bin ha hb fun X A s v u _ h1 h2 _ E => by obtain ⟨_, rfl⟩ := rd_int h1; obtain ⟨_, rfl⟩ := rd_int h2; exact PyProof.Rows.mul_int ⟨Kp.tok s _, .int _ _⟩ hm
theorem ev_fdiv {a b : Int} (ha : Ev c k env ρ μ l (.int a)) (hb : Ev c k env ρ μ r (.int b)) (h0 : b ≠ 0) (hs : b.natAbs < 1073741824) : Ev c k env ρ μ (.BinOp l .FloorDiv r pos) (.int (a.fdiv b)) :=
  ev_bin ha hb fun X A s v u _ h1 h2 _ E => by obtain ⟨_, rfl⟩ := rd_int h1; obtain ⟨_, rfl⟩ := rd_int h2; exact PyProof.Rows.floordiv_int h0 ⟨Kp.tok s _, .int _ _⟩ (.inl (PyProof.noPylong_small hs))
theorem ev_pow {a b : Int} (ha : Ev c k env ρ μ l (.int a)) (hb : Ev c k env ρ μ r (.int b)) (h0 : 0 ≤ b) (h1 : b ≤ 1000000) (h2 : a.natAbs < 2 ^ 64) : Ev c k env ρ μ (.BinOp l .Pow r pos) (.int (a ^ b.toNat)) :=
  ev_bin ha hb fun X A s v u _ r1 r2 _ E => by cases r1; cases r2; exact PyProof.Rows.pow_int_small h0 h1 h2 ⟨Kp.tok s _, .int _ _⟩

theorem ev_neg {e : Expr} {a : Int} (ha : Ev c k env ρ μ e (.int a)) : Ev c k env ρ μ (.UnaryOp .USub e pos) (.int (-a)) := by
  intro X A s hA R E
  show wpAny _ _ (do let v ← eval e env; standAt pos; holding [v] (unaryOp .USub v)) _ _ s
  refine wpAny_bind (gives_bind (ha X A s hA R) fun v s₁ k₁ r₁ => wpAny_bind (wpAny_standAt (wpAny_holding ?_)))
  cases r₁
  exact PyProof.Rows.neg_int ⟨k₁.trans (Kp.tok s₁ _), .int _ _⟩

/-! ## items -/
theorem ev_item {e i : Expr} {ds : List D} {n : Int} {d : D} (he : Ev c k env ρ μ e (.list ds)) (hi : Ev c k env ρ μ i (.int n)) (h0 : 0 ≤ n) (hd : ds[n.toNat]? = some d) (hlen : ds.length ≤ 16777216)
    (hs : ∀ o v, subscripted i false o v = operate [o, v] (getItem o v) := by intro _ _; with_unfolding_all rfl) : Ev c k env ρ μ (.Subscript e i pos) d := by
  intro X A s hA R E
  refine Subscript_ (gives_bind (he X A s hA R) fun v s₁ k₁ r₁ => gives_bind (hi X A s₁ hA (R.keep k₁.sub)) fun u s₂ k₂ r₂ => ?_)
  cases r₂
  cases r₁.keep k₂.sub with
  | list hX ho hc hd' hr =>
    rename_i a o vs m
    obtain ⟨x, hx, rx⟩ := hr.get hd
    have hlt : n.toNat < ds.length := (List.getElem?_eq_some_iff.mp hd).1
    have hl : s₂.heap.IsList a vs := ⟨o, ho, hc, m, hd'⟩
    exact tail_any hl.typeIs slot_list_getitem.lookup (wpAny_getItem_list hl h0 (by lia) (by simpa using hx) ⟨k₁.trans k₂, rx⟩) (hs _ _)
/-! ## tests -/
theorem tr_plain {e : Expr} {b : Bool} (he : Ev c k env ρ μ e (.bool b)) (hp : ∀ whole, isTrue e env whole = (do let v ← whole; standAt e.pos; holding [v] (truthy v)) := by intro _; rfl) : Tr c k env ρ μ e b := by
  intro X A s E hA R
  refine isTrue_plain (gives_bind (he X A s hA R) fun v s₁ k₁ r₁ => ?_) (hp _)
  cases r₁
  exact wpAny_truthy_bool ⟨k₁, rfl⟩
theorem tr_not {e : Expr} {b : Bool} (he : Tr c k env ρ μ e b) : Tr c k env ρ μ (.UnaryOp .Not e pos) (!b) := by
  intro X A s E hA R
  exact isTrue_not (wpAny_mono (he X A s E hA R) (fun v s₁ q => ⟨q.1, by rw [q.2]⟩) fun _ _ e => e)
theorem tr_and {e : Expr} {es : List Expr} {a b : Bool} (he : Tr c k env ρ μ e a) (hr : a = true → Tr c k env ρ μ (.BoolOp .And es pos) b) (hf : a = false → b = false) : Tr c k env ρ μ (.BoolOp .And (e :: es) pos) b := by
  intro X A s E hA R
  refine isTrue_and (wpAny_mono (he X A s E hA R) (fun v s₁ q => ?_) fun _ _ e => e)
  obtain ⟨k₁, rfl⟩ := q
  cases v with
  | true => exact wpAny_mono (hr rfl X A s₁ E hA (R.keep k₁.sub)) (fun v s₂ q => ⟨k₁.trans q.1, q.2⟩) fun _ _ e => e
  | false => exact ⟨k₁, (hf rfl).symm⟩
theorem tr_and0 : Tr c k env ρ μ (.BoolOp .And [] pos) true := fun _ _ s _ _ _ => isTrue_and_nil ⟨Kp.refl s, rfl⟩
theorem tr_or {e : Expr} {es : List Expr} {a b : Bool} (he : Tr c k env ρ μ e a) (hr : a = false → Tr c k env ρ μ (.BoolOp .Or es pos) b) (hf : a = true → b = true) : Tr c k env ρ μ (.BoolOp .Or (e :: es) pos) b := by
  intro X A s E hA R
  refine isTrue_or (wpAny_mono (he X A s E hA R) (fun v s₁ q => ?_) fun _ _ e => e)
  obtain ⟨k₁, rfl⟩ := q
  cases v with
  | true => exact ⟨k₁, (hf rfl).symm⟩
  | false => exact wpAny_mono (hr rfl X A s₁ E hA (R.keep k₁.sub)) (fun v s₂ q => ⟨k₁.trans q.1, q.2⟩) fun _ _ e => e
theorem tr_or0 : Tr c k env ρ μ (.BoolOp .Or [] pos) false := fun _ _ s _ _ _ => isTrue_or_nil ⟨Kp.refl s, rfl⟩

/-- and, or of bools as values -/
theorem ev_bool1 {op : BoolOp} {e : Expr} {d : D} (he : Ev c k env ρ μ e d) : Ev c k env ρ μ (.BoolOp op [e] pos) d := fun X A s hA R E => BoolOp_one (he X A s hA R E)
theorem ev_and {e e' : Expr} {es : List Expr} {a b : Bool} (he : Ev c k env ρ μ e (.bool a)) (hr : a = true → Ev c k env ρ μ (.BoolOp .And (e' :: es) pos) (.bool b)) (hf : a = false → b = false) : Ev c k env ρ μ (.BoolOp .And (e :: e' :: es) pos) (.bool b) := by
  intro X A s hA R E
  refine BoolOp_and (gives_bind (he X A s hA R) fun v s₁ k₁ r₁ => ?_)
  cases r₁
  refine wpAny_truthy_bool ?_
  cases a with
  | true => exact gives_after (hr rfl X A s₁ hA (R.keep k₁.sub)) k₁
  | false => rw [hf rfl]; exact ⟨k₁, .bool _⟩
/-! ## range -/
def upto (n : Int) : List Int := (List.range n.toNat).map fun i : Nat => (i : Int)
theorem mem_upto {n x : Int} : x ∈ upto n ↔ 0 ≤ x ∧ x < n := by
  unfold upto
  simp only [List.mem_map, List.mem_range]
  constructor
  · rintro ⟨i, h, rfl⟩; lia
  · intro h; exact ⟨x.toNat, by lia, by lia⟩
theorem src_range {x : Str} {px pos : Pos} {e : Expr} {n : Int} (hg : c.mg x = none) (hb : bootBuiltins x = some (.type "range")) (he : Ev c k env ρ μ e (.int n)) (h1 : n < 2 ^ 62) (h0 : -(2 ^ 62) ≤ n) (hs : notStar e = true := by rfl) (hn : x ≠ "__name__" := by decide)
    (hx : env.kindOf x = some .globalImplicit := by rfl) (hd : (x == ("__debug__" : Str)) = false := by decide) : Src c k env ρ μ (.Call (.Name x px) [e] [] pos) ((upto n).map .int) := by
  intro X A s E hA R
  refine Call_ (name_builtin R hx hg hb hn ?_ hd)
  refine callWith_plain R hA (.cons he .nil hs) (fun s' k' => ⟨.machine, .inr rfl, fun Q' hq => wpAny_pure hq⟩) (by intro h; cases h) fun vs s₁ k₁ r₁ => ?_
  cases r₁ with
  | cons r1 r2 =>
    cases r2
    cases r1
    refine call_range_1 ?_
    refine wpAny_pyIter_range (IsRange.new ..) (small_one (by decide) (by decide) h0 h1) ?_
    have hsz : Builtin.Range.rangeSize 0 n 1 = (n.toNat : Int) := by rw [rangeSize_one]; split <;> lia
    have hlen : ((upto n).map D.int).length = n.toNat := by simp [upto]
    generalize hH : s₁.heap.push { cls := .type "range", data := .fields #[.int 0 s₁.toks, .int n _, .int 1 (s₁.toks + 1)] } = H
    have hk : Sub s.heap H := fun a o e => hH ▸ Heap.get?_push_of_some _ (k₁.sub a o e)
    have hnew : H.get? H.objs.size = none := by
      refine none_of fun o h => ?_
      exact absurd (Heap.lt_size h) (Nat.lt_irrefl _)
    have hW := Walks.range (prog := c.prog) (w := c.w) hA.handled H.objs.size 0 1 n.toNat
    refine ⟨_, _, _, _, _, rfl, hlen.symm ▸ hW, ?_, ?_, fun b hb => ?_, fun b hb => ?_, fun i h st b hb => ?_, fun i d v hi hv => ?_⟩
    · have e1 : (0 + ((0 : Nat) : Int) * 1) = 0 := by simp
      have e2 : ((((upto n).map D.int).length : Int) - ((0 : Nat) : Int)) = Builtin.Range.rangeSize 0 n 1 := by rw [hsz, hlen]; simp
      rw [e1, e2]
      exact Heap.get?_push_size _ rfl
    · exact ⟨fun a o e => Heap.get?_push_of_some _ (hk a o e), k₁.same.trans ⟨rfl, rfl⟩⟩
    · simp at hb; subst hb
      refine none_of fun o h => ?_
      first | exact (no1 (hk _ _ h) hnew).elim | exact (no1 hnew (hk _ _ h)).elim | (rw [hk _ _ h] at hnew; cases hnew)
    · simp at hb; subst hb
      exact ⟨.inl (by simp), _, Heap.get?_push_size _ rfl⟩
    · simp at hb; subst hb
      exact ⟨_, st⟩
    · obtain ⟨t, rfl⟩ := hv
      simp [upto] at hi
      obtain ⟨w, hw, rfl⟩ := hi
      obtain ⟨_, rfl⟩ := List.getElem?_eq_some_iff.mp hw
      rw [List.getElem_range]
      have : (0 + (i : Int) * 1) = (i : Int) := by lia
      rw [this]; exact .int _ _
end
end Mine
end

/-! # M9 -/
section
set_option autoImplicit false
namespace Mine
open PySem PySem.Calls PyProof.Rows

def scalar : D → Bool
  | .none | .bool _ | .int _ | .str _ => true
  | _ => false
theorem Rd.scalar {X X' : Addr → Prop} {h h' : Heap} {v : Value} {d : D} (r : Rd X h v d) (hs : scalar d = true) : Rd X' h' v d := by
  cases r <;> first | exact .none | exact .bool _ | exact .int _ _ | exact .str _ _ | cases hs
theorem RdAll.scalar {X X' : Addr → Prop} {h h' : Heap} {vs : List Value} {ds : List D} (r : RdAll X h vs ds) (hs : ∀ d ∈ ds, scalar d = true) : RdAll X' h' vs ds := by
  induction vs generalizing ds with
  | nil => cases r; exact .nil
  | cons v vs ih => cases r with | cons a r => exact .cons (a.scalar (hs _ (.head _))) (ih r fun d hd => hs d (.tail _ hd))

/-- an expression that gives a list of its own -/
def EvF (c : Cx) (k : Nat) (env : Env) (ρ : Vars) (μ : Mem) (e : Expr) (ds : List D) : Prop :=
  ∀ X A s E, Room k A → Rc c X env ρ μ s → wpAny (model c.prog c.w) A (eval e env) (fun v s' => Kp s s' ∧ ∃ a vs, v = .ref a ∧ s.heap.get? a = none ∧ PL s'.heap a vs ∧ RdAll (fun b => X b ∨ b = a) s'.heap vs.toList ds) E s

section
variable {c : Cx} {k : Nat} {env : Env} {ρ : Vars} {μ : Mem}

/-- a mutable list of the call's own, new -/
theorem St.addM {X₀ : Addr → Prop} {s s' : Shared} {a : Addr} {ds : List D} {vs : Array Value} (S : St c X₀ env ρ μ s) (k : Kp s s') (n : s.heap.get? a = none) (hl : PL s'.heap a vs) (hr : RdAll (XOf X₀ env ((a, ds) :: μ)) s'.heap vs.toList ds) :
    St c X₀ env ρ ((a, ds) :: μ) s' := by
  have S' := S.kp k
  have k' := k.sub
  have nM : ¬ Mut env μ a := fun m => by obtain ⟨o, e⟩ := S.live' m; first | exact (no1 (n) e).elim | exact (no1 e (n)).elim | (rw [n] at e; cases e)
  have hM : ∀ b, Mut env ((a, ds) :: μ) b → b = a ∨ Mut env μ b := fun b m => by
    rcases m with m | m | ⟨es, m⟩
    · exact .inr (.inl m)
    · exact .inr (.inr (.inl m))
    · rcases List.mem_cons.mp m with q | q
      · cases q; exact .inl rfl
      · exact .inr (.inr (.inr ⟨es, q⟩))
  have hx : ∀ b o, ¬ XOf X₀ env μ b → s.heap.get? b = some o → ¬ XOf X₀ env ((a, ds) :: μ) b ∧ s'.heap.get? b = some o := fun b o q e => by
    refine ⟨?_, k' b o e⟩
    rintro (y | y)
    · exact q (.inl y)
    · rcases hM b y with y | y
      · rw [y, n] at e; cases e
      · exact q (.inr y)
  refine { S' with own := fun b m => ?_, vars := fun x d e => ?_, mem := fun b es m => ?_, nodup := ?_, memX := fun b es m q => ?_ }
  · rcases hM b m with q | q
    · subst q
      refine none_of fun o e => ?_
      first | exact (no1 (S.base b o e) n).elim | exact (no1 n (S.base b o e)).elim | (rw [S.base b o e] at n; cases n)
    · exact S.own b q
  · obtain ⟨v, y, r⟩ := S.vars x d e; exact ⟨v, y.keep k', r.mono hx⟩
  · rcases List.mem_cons.mp m with q | q
    · cases q; exact ⟨vs, hl, hr⟩
    · obtain ⟨us, ⟨o, e, y⟩, r⟩ := S.mem b es q; exact ⟨us, ⟨o, k' b o e, y⟩, r.mono hx⟩
  · rw [List.map_cons, List.nodup_cons]
    refine ⟨fun h => ?_, S.nodup⟩
    obtain ⟨⟨b, es⟩, hm, e⟩ := List.mem_map.mp h
    exact nM (.inr (.inr ⟨es, (show b = a from e) ▸ hm⟩))
  · rcases List.mem_cons.mp m with z | z
    · cases z; obtain ⟨o, e⟩ := S.live _ q; first | exact (no1 (n) e).elim | exact (no1 e (n)).elim | (rw [n] at e; cases e)
    · exact S.memX b es z q

theorem Go.addM {s s' : Shared} {a : Addr} {ds : List D} (k : Kp s s') (n : s.heap.get? a = none) : Go env μ s ((a, ds) :: μ) s' := by
  refine ⟨k.same, fun b o _ q => k.sub b o q, fun b o q => ⟨o, k.sub b o q⟩, fun b es h => ?_⟩
  rcases List.mem_cons.mp h with q | q
  · cases q; exact .inr n
  · exact .inl ⟨es, q⟩

/-- x = a list of its own: it may change from here -/
theorem ex_assignF {Q : Out → Vars → Mem → Prop} {x : Str} {px pos : Pos} {e : Expr} {ds : List D} (he : EvF c k env ρ μ e ds) (h : ∀ a, (∀ es, (a, es) ∉ μ) → Q .next ((x, .raw (.ref a)) :: ρ) ((a, ds) :: μ)) (hx : stor env x = true := by rfl)
    (hs : swapsWith e (some (.Name x px)) pos.line env = pure false := by rfl) : Ex1 c k env ρ μ (.Assign [.Name x px] e pos) Q := by
  intro X₀ A s E hA S
  refine wpAny_Assign_Name (wpAny_mono (he _ A s E hA S.rc) (fun v s₁ q => ?_) fun _ _ e => e) hs
  obtain ⟨k₁, a, vs, rfl, hn, hl, hr⟩ := q
  have S₁ : St c X₀ env ρ ((a, ds) :: μ) s₁ := S.addM k₁ hn hl (hr.weak fun b hb => by
    rcases hb with y | y | y | ⟨es, y⟩
    · exact .inl (.inl y)
    · exact .inl (.inr (.inl y))
    · exact .inl (.inr (.inr (.inl y)))
    · rcases List.mem_cons.mp y with q | q
      · cases q; exact .inr rfl
      · exact .inl (.inr (.inr (.inr ⟨es, q⟩))))
  refine st_store S₁ hx (.raw _) fun s' S' g => ⟨.next, _, _, trivial, S', (Go.addM k₁ hn).trans g, h a fun es m => ?_⟩
  obtain ⟨o, e⟩ := S.live' (.inr (.inr ⟨es, m⟩)); first | exact (no1 (hn) e).elim | exact (no1 e (hn)).elim | (rw [hn] at e; cases e)

theorem evF_nil {pos : Pos} : EvF c k env ρ μ (.List [] pos) [] := by
  intro X A s E hA R
  refine List_ (args_nil ?_)
  refine wpAny_newObj_type ⟨Kp.push s _ _, s.heap.objs.size, #[], rfl, ?_, ⟨_, Heap.get?_push_size _ rfl, rfl, rfl, _, rfl⟩, .nil⟩
  refine none_of fun o e => ?_
  exact absurd (Heap.lt_size e) (Nat.lt_irrefl _)

def setM (μ : Mem) (a : Addr) (ds : List D) : Mem := μ.map fun p => if p.1 = a then (a, ds) else p
theorem setM_keys (μ : Mem) (a : Addr) (ds : List D) : (setM μ a ds).map (·.1) = μ.map (·.1) := by
  unfold setM
  rw [List.map_map]
  refine List.map_congr_left fun p _ => ?_
  simp only [Function.comp]
  split
  · rename_i h; exact h.symm
  · rfl
theorem mem_setM {μ : Mem} {a b : Addr} {ds es : List D} (h : (b, es) ∈ setM μ a ds) : (b = a ∧ es = ds ∧ ∃ es', (b, es') ∈ μ) ∨ (b ≠ a ∧ (b, es) ∈ μ) := by
  obtain ⟨⟨p, q⟩, hm, e⟩ := List.mem_map.mp h
  dsimp only at e
  split at e
  · rename_i hp; cases e; exact .inl ⟨rfl, rfl, q, hp ▸ hm⟩
  · rename_i hp; cases e; exact .inr ⟨hp, hm⟩
/-- a change of one own list -/
theorem St.setM {X₀ : Addr → Prop} {s : Shared} {h' : Heap} {tk : Nat} {a : Addr} {ds es : List D} {vs : Array Value} (S : St c X₀ env ρ μ s) (hm : (a, ds) ∈ μ) (hs : Heap.SameBut a s.heap h') (hl : PL h' a vs) (hr : RdAll (XOf X₀ env μ) h' vs.toList es) :
    St c X₀ env ρ (Mine.setM μ a es) { s with heap := h', toks := tk } := by
  have hMa : Mut env μ a := .inr (.inr ⟨ds, hm⟩)
  have hM : ∀ b, Mut env (Mine.setM μ a es) b ↔ Mut env μ b := fun b => by
    constructor
    · rintro (m | m | ⟨fs, m⟩)
      · exact .inl m
      · exact .inr (.inl m)
      · rcases mem_setM m with ⟨_, _, q⟩ | ⟨_, q⟩
        · exact .inr (.inr q)
        · exact .inr (.inr ⟨_, q⟩)
    · rintro (m | m | ⟨fs, m⟩)
      · exact .inl m
      · exact .inr (.inl m)
      · refine .inr (.inr ?_)
        by_cases q : b = a
        · exact ⟨es, List.mem_map.mpr ⟨(b, fs), m, by simp [q]⟩⟩
        · exact ⟨fs, List.mem_map.mpr ⟨(b, fs), m, by simp [q]⟩⟩
  have hX : ∀ b, XOf X₀ env (Mine.setM μ a es) b ↔ XOf X₀ env μ b := fun b => or_congr Iff.rfl (hM b)
  have hx : ∀ b o, ¬ XOf X₀ env μ b → s.heap.get? b = some o → ¬ XOf X₀ env (Mine.setM μ a es) b ∧ h'.get? b = some o := fun b o q e => ⟨fun y => q ((hX b).mp y), hs.extBut b o (fun z => q (z ▸ .inr hMa)) e⟩
  obtain ⟨vs₀, hl₀, _⟩ := S.mem a ds hm
  have hla := hl₀.isList
  obtain ⟨m, hns⟩ := S.ns
  have hne : a ≠ env.locals := IsList_ne_Ns hla hns
  refine ⟨S.ok, fun b o e => hs.extBut b o (fun z => ?_) (S.base b o e), fun b y => S.own b ((hM b).mp y), fun b y => ?_, ⟨m, hns.sameBut hs hne.symm⟩, fun n b y => ?_, S.apart, fun x d e => ?_, fun b fs y => ?_, ?_, fun b fs y q => ?_⟩
  · have := S.own a hMa; rw [← z, e] at this; cases this
  · by_cases q : b = a
    · obtain ⟨o, e, _⟩ := hl; exact ⟨o, q ▸ e⟩
    · exact (S.live b y).imp fun o e => hs.extBut b o q e
  · obtain ⟨ov, hc⟩ := S.cel n b y
    exact ⟨ov, hc.sameBut hs (IsList_ne_Cell hla hc).symm⟩
  · obtain ⟨v, y, r⟩ := S.vars x d e
    refine ⟨v, ?_, r.mono hx⟩
    rcases y with ⟨y, m', n', q⟩ | ⟨y, c', q, i⟩
    · exact .inl ⟨y, m', n'.sameBut hs hne.symm, q⟩
    · exact .inr ⟨y, c', q, i.sameBut hs (IsList_ne_Cell hla i).symm⟩
  · rcases mem_setM y with ⟨rfl, rfl, _⟩ | ⟨hb, q⟩
    · exact ⟨vs, hl, hr.weak fun b z => (hX b).mp z⟩
    · obtain ⟨us, hl', r⟩ := S.mem b fs q
      exact ⟨us, hl'.extBut hs.extBut hb, r.mono hx⟩
  · rw [setM_keys]; exact S.nodup
  · rcases mem_setM y with ⟨rfl, _, _⟩ | ⟨_, z⟩
    · exact S.memX _ _ hm q
    · exact S.memX _ _ z q
theorem Go.setM {s : Shared} {h' : Heap} {tk : Nat} {a : Addr} {ds es : List D} {vs : Array Value} (hm : (a, ds) ∈ μ) (hs : Heap.SameBut a s.heap h') (hl : PL h' a vs) : Go env μ s (Mine.setM μ a es) { s with heap := h', toks := tk } := by
  have g := Go.but (env := env) (tk := tk) (.inr (.inr ⟨ds, hm⟩)) hs (let ⟨o, e, _⟩ := hl; ⟨o, e⟩)
  refine ⟨g.same, g.keep, g.alive, fun b fs y => ?_⟩
  rcases mem_setM y with ⟨_, _, q⟩ | ⟨_, q⟩
  · exact .inl q
  · exact .inl ⟨_, q⟩

/-- x.append(e) -/
theorem ex_append {Q : Out → Vars → Mem → Prop} {x : Str} {px apos cpos pos : Pos} {e : Expr} {a : Addr} {ds : List D} {d : D} (hx : ρ.lookup x = some (.raw (.ref a))) (hm : (a, ds) ∈ μ) (he : Ev c k env ρ μ e d) (hlen : ds.length ≤ 16777216)
    (h : Q .next ρ (setM μ a (ds ++ [d]))) (hd : (x == ("__debug__" : Str)) = false := by decide) (hst : notStar e = true := by rfl)
    (hline : (apos.endLine == cpos.line) = true := by rfl) (hi : interactive env = false := by rfl) (hs : swapsWith (.Call (.Attribute (.Name x px) "append" apos) [e] [] cpos) none pos.line env = pure false := by rfl) :
    Ex1 c k env ρ μ (.Expr (.Call (.Attribute (.Name x px) "append" apos) [e] [] cpos) pos) Q := by
  intro X₀ A s E hA S
  have hse : backTo cpos (starEach [e] env) = [(false, eval e env)] := by rw [starEach_cons hst]; rfl
  refine wpAny_Expr_any (wpAny_Call_append rfl (by rw [hse]; rfl) hline hse (gives_bind (ev_name (k := k) hx hd _ A s hA S.rc) fun v s₁ k₁ r₁ => ?_)) hi hs
  cases r₁
  have S₁ := S.kp k₁
  obtain ⟨vs, hl, hr⟩ := S₁.mem a ds hm
  refine ⟨a, vs, rfl, hl.plain, gives_bind (he _ A s₁ hA S₁.rc) fun u s₂ k₂ r₂ => ?_⟩
  have S₂ := S₁.kp k₂
  have hl₂ : PL s₂.heap a vs := let ⟨o, e, q⟩ := hl; ⟨o, k₂.sub a o e, q⟩
  have hv : vs.size = ds.length := by have := hr.length; simpa using this
  refine list_append_plainL (hsz := by rw [hv, sizeLine_eq]; exact hlen) hl₂.plain fun h' hl' hs' => ?_
  have hX : XOf X₀ env μ a := .inr (.inr (.inr ⟨ds, hm⟩))
  have hr' : RdAll (XOf X₀ env μ) h' (vs.push u).toList (ds ++ [d]) := by
    rw [Array.toList_push]
    exact ((hr.keep k₂.sub).but hX hs').append (.cons (r₂.but hX hs') .nil)
  exact ⟨.next, ρ, _, trivial, S₂.setM (tk := s₂.toks) hm hs' (PL.of hl') hr', (Go.of_kp (k₁.trans k₂)).trans (Go.setM (tk := s₂.toks) hm hs' (PL.of hl')), h⟩

def dropM (μ : Mem) (a : Addr) : Mem := μ.filter fun p => p.1 != a
theorem mem_dropM {μ : Mem} {a b : Addr} {ds : List D} : (b, ds) ∈ dropM μ a ↔ (b, ds) ∈ μ ∧ b ≠ a := by
  unfold dropM; simp

theorem St.dropM {X₀ : Addr → Prop} {s : Shared} {a : Addr} (S : St c X₀ env ρ μ s) : St c X₀ env ρ (Mine.dropM μ a) s := by
  have hM : ∀ b, Mut env (Mine.dropM μ a) b → Mut env μ b := fun b m => by
    rcases m with m | m | ⟨fs, m⟩
    · exact .inl m
    · exact .inr (.inl m)
    · exact .inr (.inr ⟨fs, (mem_dropM.mp m).1⟩)
  have hX : ∀ b, XOf X₀ env (Mine.dropM μ a) b → XOf X₀ env μ b := fun b y => y.imp id (hM b)
  refine { S with own := fun b m => S.own b (hM b m), vars := fun x d e => ?_, mem := fun b es m => ?_, nodup := ?_, memX := fun b es m q => S.memX b es (mem_dropM.mp m).1 q }
  · obtain ⟨v, y, r⟩ := S.vars x d e; exact ⟨v, y, r.weak hX⟩
  · obtain ⟨us, y, r⟩ := S.mem b es (mem_dropM.mp m).1; exact ⟨us, y, r.weak hX⟩
  · exact S.nodup.sublist (List.filter_sublist.map _)
theorem Go.dropM {s s' : Shared} {μ' : Mem} {a : Addr} (g : Go env (Mine.dropM μ a) s μ' s') : Go env μ s μ' s' := by
  refine ⟨g.same, fun b o n e => g.keep b o (fun m => n ?_) e, g.alive, fun b fs y => ?_⟩
  · rcases m with m | m | ⟨fs, m⟩
    · exact .inl m
    · exact .inr (.inl m)
    · exact .inr (.inr ⟨fs, (mem_dropM.mp m).1⟩)
  · rcases g.grow b fs y with ⟨gs, q⟩ | q
    · exact .inl ⟨gs, (mem_dropM.mp q).1⟩
    · exact .inr q

/-- it changes no more: x is plain data from here -/
theorem ex_freeze {Q : Out → Vars → Mem → Prop} {ss : List Stmt} {x : Str} {a : Addr} {ds : List D} (hx : ρ.lookup x = some (.raw (.ref a))) (hm : (a, ds) ∈ μ) (h : Ex c k env ((x, .list ds) :: ρ) (dropM μ a) ss Q) : Ex c k env ρ μ ss Q := by
  intro X₀ A s E hA S
  have S' : St c X₀ env ((x, .list ds) :: ρ) (dropM μ a) s := by
    have S₁ := S.dropM (a := a)
    refine { S₁ with vars := fun y d e => ?_ }
    rw [List.lookup_cons] at e
    cases hb : y == x with
    | false => rw [hb] at e; exact S₁.vars y d e
    | true =>
      rw [hb] at e
      cases e
      obtain ⟨v, hv, r⟩ := S.vars x _ hx
      cases r
      obtain ⟨vs, ⟨o, e, hc, _, n, hd⟩, hr⟩ := S.mem a ds hm
      rw [beq_iff_eq.mp hb]
      refine ⟨_, hv, .list ?_ e hc hd (hr.weak fun b z => ?_)⟩
      · rintro (y | y | ⟨n', y⟩ | ⟨fs, y⟩)
        · exact S.memX a ds hm y
        · obtain ⟨m, hns⟩ := S.ns
          exact IsList_ne_Ns ⟨o, e, hc, n, hd⟩ hns y
        · obtain ⟨ov, hcl⟩ := S.cel n' a y
          exact IsList_ne_Cell ⟨o, e, hc, n, hd⟩ hcl rfl
        · exact (mem_dropM.mp y).2 rfl
      · rcases z with z | z | z | ⟨fs, z⟩
        · exact .inl z
        · exact .inr (.inl z)
        · exact .inr (.inr (.inl z))
        · exact .inr (.inr (.inr ⟨fs, (mem_dropM.mp z).1⟩))
  exact wpAny_mono (h X₀ A s E hA S') (fun fl s' p => let ⟨o, ρ', μ', y1, y2, g, q⟩ := p; ⟨o, ρ', μ', y1, y2, g.dropM, q⟩) fun _ _ e => e
end
end Mine
end

/-! # MS1 -/
section
set_option autoImplicit false
namespace Mine
open PySem

def Rise (xs : Array Nat) : Prop := xs.toList.Pairwise (· < ·)

/-- a table that is walked as it lies -/
structure TOk (bt : Bool) (t : SetTable) : Prop where
  rise : Rise t.place
  none : t.dummies = #[]
  led : t.led = true ∨ bt = true

theorem rise_get {xs : Array Nat} (h : Rise xs) {i j : Nat} {a b : Nat} (hi : xs[i]? = some a) (hj : xs[j]? = some b) (hij : i < j) : a < b := by
  have hi' : xs.toList[i]? = some a := by simpa using hi
  have hj' : xs.toList[j]? = some b := by simpa using hj
  obtain ⟨p, rfl⟩ := List.getElem?_eq_some_iff.mp hi'
  obtain ⟨q, rfl⟩ := List.getElem?_eq_some_iff.mp hj'
  exact List.pairwise_iff_getElem.mp h i j p q hij

structure Cut (xs : Array Nat) (j p : Nat) : Prop where
  le : p ≤ xs.size
  lo : ∀ (i a : Nat), i < p → xs[i]? = some a → a < j
  hi : ∀ (i a : Nat), p ≤ i → xs[i]? = some a → j ≤ a

theorem below_go {xs : Array Nat} {j : Nat} (h : Rise xs) : ∀ (fuel lo hi : Nat), lo ≤ hi → hi ≤ xs.size → hi - lo ≤ fuel → (∀ (i a : Nat), i < lo → xs[i]? = some a → a < j) → (∀ (i a : Nat), hi ≤ i → xs[i]? = some a → j ≤ a) →
    Cut xs j (SetTable.below.go xs j fuel lo hi)
  | 0, lo, hi, h1, h2, h3, h4, h5 => by
    have : lo = hi := by lia
    subst this
    exact ⟨h2, h4, h5⟩
  | fuel + 1, lo, hi, h1, h2, h3, h4, h5 => by
    unfold SetTable.below.go
    split
    · rename_i hlt
      have hm : (lo + hi) / 2 < xs.size := by lia
      have hg : xs[(lo + hi) / 2]? = some (xs[(lo + hi) / 2]) := by simp [hm]
      dsimp only
      have hgd : xs.getD ((lo + hi) / 2) j = xs[(lo + hi) / 2] := by simp [Array.getD, hm]
      rw [hgd]
      split
      · rename_i hc
        refine below_go h fuel _ _ (by lia) h2 (by lia) (fun i a hi' e => ?_) h5
        by_cases q : i = (lo + hi) / 2
        · subst q; rw [hg] at e; cases e; exact hc
        · exact Nat.lt_trans (rise_get h e hg (by lia)) hc
      · rename_i hc
        refine below_go h fuel _ _ (by lia) (by lia) (by lia) h4 fun i a hi' e => ?_
        by_cases q : i = (lo + hi) / 2
        · subst q; rw [hg] at e; cases e; lia
        · have := rise_get h hg e (by lia); lia
    · have : lo = hi := by lia
      subst this
      exact ⟨h2, h4, h5⟩
theorem below_cut {xs : Array Nat} (h : Rise xs) (j : Nat) : Cut xs j (SetTable.below xs j) :=
  below_go h xs.size 0 xs.size (Nat.zero_le _) (Nat.le_refl _) (by lia) (fun i a hi => absurd hi (Nat.not_lt_zero _)) fun i a hi e => by
    have := (Array.getElem?_eq_some_iff.mp e).1; lia
theorem cut_unique {xs : Array Nat} {j p q : Nat} (a : Cut xs j p) (b : Cut xs j q) : p = q := by
  rcases Nat.lt_trichotomy p q with h | h | h
  · have hp : p < xs.size := Nat.lt_of_lt_of_le h b.le
    have e : xs[p]? = some xs[p] := by simp [hp]
    have h1 := b.lo p _ h e
    have h2 := a.hi p _ (Nat.le_refl _) e
    lia
  · exact h
  · have hp : q < xs.size := Nat.lt_of_lt_of_le h a.le
    have e : xs[q]? = some xs[q] := by simp [hp]
    have h1 := a.lo q _ h e
    have h2 := b.hi q _ (Nat.le_refl _) e
    lia

theorem rise_insert {xs : Array Nat} (h : Rise xs) {j : Nat} (hn : (xs[SetTable.below xs j]? == some j) = false) : Rise (SetTable.insertAt xs (SetTable.below xs j) j) := by
  have c := below_cut h j
  unfold Rise
  rw [SetTable.toList_insertAt, List.pairwise_append, List.pairwise_cons]
  have mtake : ∀ a ∈ xs.toList.take (SetTable.below xs j), a < j := fun a ha => by
    obtain ⟨i, hi, e⟩ := List.mem_iff_getElem.mp ha
    rw [List.getElem_take] at e
    rw [List.length_take] at hi
    refine c.lo i a (by lia) ?_
    rw [← Array.getElem?_toList, ← e]; simp
  have mdrop : ∀ a ∈ xs.toList.drop (SetTable.below xs j), j < a := fun a ha => by
    obtain ⟨i, hi, e⟩ := List.mem_iff_getElem.mp ha
    rw [List.getElem_drop] at e
    rw [List.length_drop] at hi
    have e' : xs[SetTable.below xs j + i]? = some a := by rw [← Array.getElem?_toList, ← e]; simp
    have h1 := c.hi _ a (Nat.le_add_right _ _) e'
    by_cases q : j = a
    · exfalso
      subst q
      by_cases z : i = 0
      · subst z; rw [Nat.add_zero] at e'; rw [e'] at hn; simp at hn
      · have hs : SetTable.below xs j < xs.size := by simp at hi; lia
        have e0 : xs[SetTable.below xs j]? = some (xs[SetTable.below xs j]) := by simp [hs]
        have h2 := c.hi _ _ (Nat.le_refl _) e0
        have h3 := rise_get h e0 e' (by lia)
        lia
    · lia
  exact ⟨h.sublist (List.take_sublist _ _), ⟨mdrop, h.sublist (List.drop_sublist _ _)⟩, fun a ha b hb => by
    rcases List.mem_cons.mp hb with q | q
    · rw [q]; exact mtake a ha
    · exact Nat.lt_trans (mtake a ha) (mdrop b q)⟩

theorem has_nil (j : Nat) : SetTable.has #[] j = false := by
  unfold SetTable.has; simp

theorem probe_go {t : SetTable} {f : Nat → Int} {h : Int} (hd : t.dummies = #[]) : ∀ (fuel : Nat) (p : SetTable.Probe) (j : Nat) (d : Option Nat), p.dummy = none → SetTable.probe.go t f h fuel p = some (.empty j d) → d = none ∧ t.slot j = .empty
  | 0, _, _, _, _, e => by simp [SetTable.probe.go] at e
  | fuel + 1, p, j, d, hp, e => by
    have adv : (t.advance p).dummy = none := by unfold SetTable.advance; split <;> exact hp
    unfold SetTable.probe.go at e
    split at e
    · rename_i hs
      cases e
      exact ⟨hp, hs⟩
    · rename_i hs
      exfalso
      unfold SetTable.slot at hs
      dsimp only at hs
      rw [hd, has_nil] at hs
      split at hs
      · cases hs
      · simp at hs
    · split at e
      · cases e
      · exact probe_go hd fuel _ j d adv e

theorem put_ok {bt : Bool} {t : SetTable} {j : Nat} (h : TOk bt t) (hs : t.slot j = .empty) : TOk bt (t.put j).1 := by
  have hn : (t.place[SetTable.below t.place j]? == some j) = false := by
    unfold SetTable.slot at hs
    dsimp only at hs
    split at hs
    · cases hs
    · rename_i q; simpa using q
  unfold SetTable.put
  dsimp only
  refine ⟨rise_insert h.rise hn, ?_, h.led⟩
  rw [h.none, has_nil]; simp

theorem standIn_ok {bt : Bool} {t : SetTable} {n : Nat} (h : TOk bt t) : TOk bt (t.standIn n) := by
  refine ⟨?_, rfl, h.led⟩
  unfold Rise SetTable.standIn
  dsimp only
  rw [Array.toList_range]
  exact List.pairwise_lt_range
theorem orStandIn_ok {bt : Bool} {t : SetTable} {n : Nat} (h : TOk bt t) : TOk bt (t.orStandIn n) := by
  unfold SetTable.orStandIn; split
  · exact h
  · exact standIn_ok h

theorem layNew_ok {bt : Bool} {t : SetTable} {es : Array (Int × Value)} {h : Int} {x : Value} (ok : TOk bt t) : TOk bt (layNew t es h x).2.1 := by
  unfold layNew
  split
  · rename_i slot wd hf
    dsimp only
    refine orStandIn_ok (put_ok ok ?_)
    unfold SetTable.freeSlot at hf
    split at hf
    · rename_i j d hp
      cases hf
      obtain ⟨rfl, q⟩ := probe_go ok.none _ _ _ _ rfl hp
      exact q
    · cases hf
  · exact standIn_ok ok

theorem laid_ok {bt : Bool} {mask finger moves : Nat} {led plain : Bool} {hs : Array Int} {t : SetTable} {order : Array Nat} (hl : led = true ∨ bt = true) (e : SetTable.laid mask finger moves led plain hs = some (t, order)) : TOk bt t := by
  unfold SetTable.laid at e
  cases ho : SetTable.layClean mask hs with
  | none => first | exact (no1 (ho) e).elim | exact (no1 e (ho)).elim | (rw [ho] at e; cases e)
  | some owner =>
    rw [ho] at e
    cases e
    refine ⟨?_, rfl, hl⟩
    unfold Rise
    dsimp only
    have key : ∀ l : List Nat, (l.filterMap fun j => (owner.getD j none).map (j, ·)).map (·.1) = l.filter fun j => (owner.getD j none).isSome := by
      intro l
      induction l with
      | nil => rfl
      | cons a l ih =>
        rw [List.filterMap_cons, List.filter_cons]
        cases hq : owner.getD a none with
        | none => simpa using ih
        | some b => simpa using ih
    rw [key]
    exact List.pairwise_lt_range.sublist List.filter_sublist
theorem relayAll_ok {bt : Bool} {t : SetTable} {es : Array (Int × Value)} {n : Nat} (ok : TOk bt t) : TOk bt (relayAll t es n).2.1 := by
  unfold relayAll
  split
  · rename_i t' order he
    dsimp only
    split
    · exact laid_ok ok.led he
    · exact standIn_ok ok
  · exact standIn_ok ok

/-- the walk of a table in order -/
theorem walk_at {xs : Array Nat} (h : Rise xs) (i : Nat) (hi : i ≤ xs.size) : SetTable.below xs (if i = 0 then 0 else xs.getD (i - 1) 0 + 1) = i := by
  refine cut_unique (below_cut h _) ?_
  by_cases z : i = 0
  · subst z
    simp only [if_true]
    exact ⟨Nat.zero_le _, fun i a hi => absurd hi (Nat.not_lt_zero _), fun _ _ _ _ => Nat.zero_le _⟩
  · rw [if_neg z]
    have hs : i - 1 < xs.size := by lia
    have hg : xs.getD (i - 1) 0 = xs[i - 1] := by simp [Array.getD, hs]
    have e0 : xs[i - 1]? = some (xs[i - 1]) := by simp [hs]
    rw [hg]
    refine ⟨hi, fun k a hk e => ?_, fun k a hk e => ?_⟩
    · by_cases q : k = i - 1
      · subst q; rw [e0] at e; cases e; lia
      · have := rise_get h e e0 (by lia); lia
    · have := rise_get h e0 e (by lia); lia

theorem erase_perm {α : Type} {l : List α} {i : Nat} (h : i < l.length) : (l[i] :: l.eraseIdx i).Perm l := by
  rw [List.eraseIdx_eq_take_drop_succ]
  have e : l = l.take i ++ l[i] :: l.drop (i + 1) := by
    rw [← List.drop_eq_getElem_cons h, List.take_append_drop]
  exact (List.perm_middle.symm.trans (List.Perm.of_eq e.symm))

/-- the two drawn orders are orders -/
theorem pickOrder_go_perm {α : Type} (next : Nat → Nat) : ∀ (fuel k : Nat) (left : List α) (out : Array α), left.length ≤ fuel → (pickOrder.go next fuel k left out).toList.Perm (out.toList ++ left)
  | 0, _, left, out, h => by
    have : left = [] := List.eq_nil_of_length_eq_zero (by lia)
    subst this
    unfold pickOrder.go; simp
  | fuel + 1, k, left, out, h => by
    unfold pickOrder.go
    cases left with
    | nil => simp
    | cons a l =>
      have hl : next k % (a :: l).length < (a :: l).length := Nat.mod_lt _ (by simp)
      have e : (a :: l)[next k % (a :: l).length]? = some ((a :: l)[next k % (a :: l).length]) := List.getElem?_eq_getElem hl
      rw [e]
      dsimp only
      have ih := pickOrder_go_perm next fuel (k + 1) ((a :: l).eraseIdx (next k % (a :: l).length)) (out.push ((a :: l)[next k % (a :: l).length])) (by rw [List.length_eraseIdx_of_lt hl]; simp at h ⊢; lia)
      refine ih.trans ?_
      rw [Array.toList_push, List.append_assoc]
      exact List.Perm.append_left _ (erase_perm hl)
theorem pickOrder_perm {α : Type} (next : Nat → Nat) (xs : Array α) : (pickOrder next xs).toList.Perm xs.toList := by
  unfold pickOrder
  simpa using pickOrder_go_perm next xs.size 0 xs.toList #[] (by simp)
end Mine
end

/-! # MS2 -/
section
set_option autoImplicit false
namespace Mine
open PySem PyProof.Rows

def bt (w : World) : Bool := w.params.followText "set-order"

/-- the object at a is a set of just these ints -/
def SetI (prog : Program) (w : World) (h : Heap) (a : Addr) (S : List Int) : Prop :=
  ∃ o es ep t ms, h.get? a = some o ∧ o.ExactSet ∧ o.data = .set es ep t ∧ ElemsOf (intKind prog w) es.toList ∧ IntsAre (es.toList.map (·.2)) ms ∧ ms.Nodup ∧ (∀ k, k ∈ ms ↔ k ∈ S) ∧
    es.size < scanBound ∧ t.fits es.size = true ∧ TOk (bt w) t

theorem SetI.at {prog : Program} {w : World} {h h' : Heap} {a : Addr} {S : List Int} (x : SetI prog w h a S) (k : ∀ o, h.get? a = some o → h'.get? a = some o) : SetI prog w h' a S := by
  obtain ⟨o, es, ep, t, ms, e, r⟩ := x
  exact ⟨o, es, ep, t, ms, k o e, r⟩

theorem nodup_len : ∀ {l m : List Int}, l.Nodup → (∀ x ∈ l, x ∈ m) → l.length ≤ m.length
  | [], _, _, _ => Nat.zero_le _
  | a :: l, m, hn, hs => by
    rw [List.nodup_cons] at hn
    have ha := hs a (.head _)
    have ih := nodup_len (l := l) (m := m.erase a) hn.2 fun x hx => (List.mem_erase_of_ne (show x ≠ a from fun e => hn.1 (e ▸ hx))).mpr (hs x (.tail _ hx))
    have h1 := List.length_erase_of_mem ha
    have h2 : 0 < m.length := List.length_pos_of_mem ha
    rw [List.length_cons]; lia

theorem ints_perm {vs vs' : List Value} {ns : List Int} (h : IntsAre vs ns) (p : vs'.Perm vs) : ∃ ns', IntsAre vs' ns' ∧ ns'.Perm ns := by
  refine ⟨vs'.map numOf, intsAre_map vs' fun v hv => h.all v (p.mem_iff.mp hv), ?_⟩
  rw [← h.nums]
  exact p.map numOf

theorem ints_find {prog : Program} {w : World} {k : Int} : ∀ {es : List (Int × Value)} {ms : List Int}, IntsAre (es.map (·.2)) ms → ((∃ e ∈ es, (intKind prog w).is k e.2 = true) ↔ k ∈ ms)
  | [], _, h => by cases h; simp
  | e :: es, _, h => by
    obtain ⟨eh, ev⟩ := e
    rw [List.map_cons] at h
    cases h with
    | cons n t hr =>
      have ih := @ints_find prog w k es _ hr
      simp only [List.mem_cons, exists_eq_or_imp, ih]
      have : (intKind prog w).is k (.int n t) = true ↔ k = n := by
        constructor
        · intro q
          have q' : Value.isInt k (.int n t) = true := q
          obtain ⟨u, e⟩ := Value.isInt_shape q'
          cases e; rfl
        · rintro rfl; exact intKind_is _ _ _ _
      rw [this]

section
variable {prog : Program} {w : World} {A : Around} {E : Value → Shared → Prop} {s : Shared}

theorem byText_at {Q : Bool → Shared → Prop} (h : Q (bt w) s) : wpAny (model prog w) A setsByText Q E s := by
  unfold setsByText
  exact wpAny_bind (wpAny_askSetting (wpAny_pure h))

theorem put_at {h : Heap} {a : Addr} {o : Obj} {es : Array (Int × Value)} {ep : Nat} {t : SetTable} (ho : h.get? a = some o) (hd : o.data = .set es ep t) (es' : Array (Int × Value)) (t' : SetTable) :
    (h.update a (Obj.putSet es' t')).get? a = some { o with data := .set es' (ep + 1) t' } := by
  have := Heap.get?_update_self (Obj.putSet es' t') ho (by rw [putSet_of es' t' hd]; rfl)
  rw [putSet_of es' t' hd] at this; exact this

/-- a set's table, by what it holds -/
structure SetE (prog : Program) (w : World) (es : Array (Int × Value)) (S : List Int) : Prop where
  el : ElemsOf (intKind prog w) es.toList
  ms : ∃ ms, IntsAre (es.toList.map (·.2)) ms ∧ ms.Nodup ∧ ∀ k, k ∈ ms ↔ k ∈ S
  lt : es.size < scanBound
theorem SetE.perm {es es' : Array (Int × Value)} {S : List Int} (x : SetE prog w es S) (hp : es'.toList.Perm es.toList) : SetE prog w es' S := by
  obtain ⟨ms, hI, hn, hm⟩ := x.ms
  obtain ⟨ms2, hI2, hp2⟩ := ints_perm hI (hp.map (·.2))
  exact ⟨x.el.perm hp, ⟨ms2, hI2, hp2.nodup_iff.mpr hn, fun k => by rw [hp2.mem_iff, hm]⟩, by rw [← Array.length_toList, hp.length_eq, Array.length_toList]; exact x.lt⟩
theorem ints_push {k : Int} {tk : Tok} {vs : List Value} {ns : List Int} (h : IntsAre vs ns) : IntsAre (vs ++ [.int k tk]) (ns ++ [k]) := by
  induction h with
  | nil => exact .cons _ _ .nil
  | cons n t _ ih => exact .cons n t ih
theorem SetE.add {es : Array (Int × Value)} {S ms : List Int} {k : Int} {tk : Tok} (hel : ElemsOf (intKind prog w) es.toList) (hI : IntsAre (es.toList.map (·.2)) ms) (hnd : ms.Nodup) (hmem : ∀ k, k ∈ ms ↔ k ∈ S) (hk : k ∉ ms) (hroom : S.length + 1 < scanBound) :
    SetE prog w (es.push ((intKind prog w).hash k, .int k tk)) (S ++ [k]) := by
  refine ⟨by rw [Array.toList_push]; exact hel.push (intKind_is _ _ _ _) rfl, ⟨ms ++ [k], by rw [Array.toList_push, List.map_append]; exact ints_push hI, List.nodup_append.mpr ⟨hnd, by simp, fun x hx y hy e => hk ((List.mem_singleton.mp hy) ▸ e ▸ hx)⟩, fun x => by rw [List.mem_append, List.mem_append, hmem]⟩, ?_⟩
  have h1 : es.size = ms.length := by have := hI.length; simpa using this
  have h2 := nodup_len hnd fun x hx => (hmem x).mp hx
  rw [Array.size_push, h1]
  exact Nat.lt_of_le_of_lt (Nat.succ_le_succ h2) hroom
theorem SetE.at {a : Addr} {o : Obj} {es : Array (Int × Value)} {ep : Nat} {t : SetTable} {S : List Int} {h : Heap} (x : SetE prog w es S) (ho : h.get? a = some o) (hex : o.ExactSet) (hd : o.data = .set es ep t) (hf : t.fits es.size = true) (hok : TOk (bt w) t) : SetI prog w h a S :=
  let ⟨ms, h1, h2, h3⟩ := x.ms; ⟨o, es, ep, t, ms, ho, hex, hd, x.el, h1, h2, h3, x.lt, hf, hok⟩

theorem gave_way {b : Bool} {Q : Unit → Shared → Prop} (hq : Q () s) : wpAny (model prog w) A (match b with | true => rule "set.scan.the-table-gave-way" | false => pure ()) Q E s := by
  cases b
  · exact wpAny_pure hq
  · exact wpAny_rule hq

theorem set_tail {a : Addr} {o : Obj} {es es1 : Array (Int × Value)} {ep : Nat} {t t2 : SetTable} {S : List Int} {wasDummy : Bool} {Q : Option Bool → Shared → Prop} (ho : s.heap.get? a = some o) (hex : o.ExactSet) (hd : o.data = .set es ep t) (X : SetE prog w es1 S) (hf2 : t2.fits es1.size = true) (hok2 : TOk (bt w) t2)
    (h : ∀ h', Heap.SameBut a s.heap h' → SetI prog w h' a S → Q (some true) { s with heap := h' }) :
    wpAny (model prog w) A (do
      storeSet a es1 t2
      if (!wasDummy && t2.tooFull) = true then do
          (match (relayAll t2 es1 (SetTable.grown es1.size)).2.2 with | true => rule "set.scan.the-table-gave-way" | false => pure ())
          storeSet a (relayAll t2 es1 (SetTable.grown es1.size)).1 (relayAll t2 es1 (SetTable.grown es1.size)).2.1
          pure (some true)
        else pure (some true)) Q E s := by
  refine wpAny_bind (wpAny_storeSet_of ho hd ?_ (fits_of_scanBound X.lt))
  have ho1 := put_at ho hd es1 t2
  have hsb1 := Heap.SameBut.update s.heap a (Obj.putSet es1 t2)
  split
  · have hp := relayAll_perm t2 es1 (SetTable.grown es1.size)
    have X2 := X.perm hp
    refine wpAny_bind (gave_way (wpAny_bind (wpAny_storeSet_of ho1 rfl ?_ (fits_of_scanBound X2.lt))))
    exact wpAny_pure (h _ (hsb1.trans (Heap.SameBut.update _ a _)) (X2.at (put_at ho1 rfl _ _) hex rfl (relayAll_fits t2 es1 _) (relayAll_ok (es := es1) hok2)))
  · exact wpAny_pure (h _ hsb1 (X.at ho1 hex rfl hf2 hok2))

theorem setAdd_at {a : Addr} {S : List Int} {k : Int} {tk : Tok} {Q : Bool → Shared → Prop} (hS : SetI prog w s.heap a S) (hroom : S.length + 1 < scanBound)
    (h : ∀ b h' tk', Heap.SameBut a s.heap h' → SetI prog w h' a (S ++ [k]) → Q b { s with heap := h', toks := tk' }) :
    wpAny (model prog w) A (setAdd a (.int k tk)) Q E s := by
  obtain ⟨o, es, ep, t, ms, ho, hex, hd, hel, hI, hnd, hmem, hb, hf, hok⟩ := hS
  have hfind := ints_find (prog := prog) (w := w) (k := k) hI
  unfold setAdd
  refine wpAny_holding (wpAny_bind ((intKind prog w).pyHash (k := k) (intKind_is _ _ _ _) ?_))
  unfold setAddHashed setAddHashedIn
  refine wpAny_holding (wpAny_bind (wpAny_setState_of (s := { s with toks := s.toks + 1 }) ho hd hf ?_))
  dsimp only
  rw [byScan_of (knd := intKind prog w) rfl hb hel]
  simp only [↓reduceIte]
  unfold setAddByScan
  refine wpAny_bind (wpAny_bind (wpAny_rule ?_))
  refine wpAny_bind (wpAny_setScan_of (s := { s with toks := s.toks + 1 }) (knd := intKind prog w) (k := k) (intKind_is _ _ _ _) ho hd hf hel ?_)
  cases hr : List.findIdx? (fun e => (intKind prog w).is k e.2) es.toList with
  | some j =>
    dsimp only
    obtain ⟨hj, hpj, _⟩ := List.findIdx?_eq_some_iff_getElem.mp hr
    have hk : k ∈ ms := hfind.mp ⟨es.toList[j], List.getElem_mem hj, hpj⟩
    exact wpAny_pure (wpAny_pure (h false s.heap _ (Heap.SameBut.refl a s.heap) ⟨o, es, ep, t, ms, ho, hex, hd, hel, hI, hnd, fun x => by
      rw [hmem, List.mem_append, List.mem_singleton]
      exact ⟨.inl, fun q => q.elim id fun q => q ▸ (hmem k).mp hk⟩, hb, hf, hok⟩))
  | none =>
    dsimp only
    have hk : k ∉ ms := fun hk => by
      obtain ⟨e, he, hp⟩ := hfind.mpr hk
      have := List.findIdx?_eq_none_iff.mp hr e he; rw [hp] at this; exact Bool.noConfusion this
    have X1 := (SetE.add (tk := tk) hel hI hnd hmem hk hroom).perm (layNew_perm t es ((intKind prog w).hash k) (.int k tk))
    have hfits := layNew_fits t es ((intKind prog w).hash k) (.int k tk)
    have hok1 := layNew_ok (es := es) (h := (intKind prog w).hash k) (x := .int k tk) hok
    generalize layNew t es ((intKind prog w).hash k) (.int k tk) = L at X1 hfits hok1 ⊢
    refine wpAny_bind (gave_way ?_)
    have fin : ∀ {T : Sem (Option Bool)}, (∀ Q', (∀ h', Heap.SameBut a s.heap h' → SetI prog w h' a (S ++ [k]) → Q' (some true) { s with heap := h', toks := s.toks + 1 }) → wpAny (model prog w) A T Q' E { s with toks := s.toks + 1 }) → _ := fun {T} hT => hT (fun r s₁ => wpAny (model prog w) A (match r with | some added => pure added | none => setAddHashedIn a (.int k tk) ((intKind prog w).hash k) 99999) Q E s₁) fun h' x y => wpAny_pure (h true h' _ x y)
    split
    · refine wpAny_bind ?_
      rw [hashByValue_scannable 8 rfl]
      refine wpAny_pure ?_
      simp only [plainKind, ↓reduceIte]
      exact fin fun Q' hq => set_tail (s := { s with toks := s.toks + 1 }) ho hex hd X1 hfits hok1 hq
    · refine wpAny_bind (wpAny_pure ?_)
      simp only [↓reduceIte]
      exact fin fun Q' hq => set_tail (s := { s with toks := s.toks + 1 }) ho hex hd X1 hfits hok1 hq
end
end Mine
end

/-! # MS3 -/
section
set_option autoImplicit false
set_option maxRecDepth 100000
namespace Mine
open PySem PyProof.Rows

section
variable {prog : Program} {w : World} {A : Around} {R : Result → Shared → Prop} {I : Addr} {fp wr : List Addr} {n : Nat} {P : Nat → Value → Prop} {St : Nat → Heap → Prop}

theorem update_loop (W : Walks prog w A.in1 I fp wr n P St) (S : Addr) (hSf : S ∉ fp) (val : Nat → Int) (hval : ∀ i v, P i v → ∃ t, v = .int (val i) t) (hb : n + 1 < scanBound) :
    ∀ (k i : Nat) (s : Shared), n - i = k → i ≤ n → St i s.heap → SetI prog w s.heap S ((List.range i).map val) →
      (∀ h' tk, (∀ b o, b ∉ S :: wr → s.heap.get? b = some o → h'.get? b = some o) → SetI prog w h' S ((List.range n).map val) → R (.ok (.ret .none)) { s with heap := h', toks := tk }) →
      codeAny (model prog w) A (.builtin "set.update.loop" ⟨[.ref S, .ref I], []⟩) R s := by
  have hSw : S ∉ wr := fun h => hSf (W.sub _ h)
  intro k
  induction k with
  | zero =>
    intro i s hk hi hst hS hR
    have hin : i = n := by lia
    subst hin
    refine codeAny_builtin PyProof.Rows.F.entry_set_update_loop ?_
    rw [Around.under_plainId PyProof.Rows.F.plain_set_update_loop _]
    show wpAny _ A.in1 (pyNext (.ref I) >>= _) _ _ s
    refine wpAny_bind (W.done s _ _ hst fun h' tk hm => ?_)
    show wpAny _ A.in1 (ret Value.none) _ _ _
    exact wpAny_pure (hR h' tk (fun b o hb e => hm b o (fun q => hb (List.mem_cons_of_mem _ q)) e) (hS.at fun o e => hm S o hSw e))
  | succ k ih =>
    intro i s hk hi hst hS hR
    have hlt : i < n := by lia
    refine codeAny_builtin PyProof.Rows.F.entry_set_update_loop ?_
    rw [Around.under_plainId PyProof.Rows.F.plain_set_update_loop _]
    show wpAny _ A.in1 (pyNext (.ref I) >>= _) _ _ s
    refine wpAny_bind (W.item i s _ _ hlt hst fun v h₁ tk₁ hP hst' hm => ?_)
    obtain ⟨t, rfl⟩ := hval i v hP
    show wpAny _ A.in1 (holding [Value.int (val i) t] (setAdd S (.int (val i) t)) >>= _) _ _ _
    refine wpAny_bind (wpAny_holding (setAdd_at (S := (List.range i).map val) (hS.at fun o e => hm S o hSw e) (by simp; lia) fun b h₂ tk₂ hsb hS2 => ?_))
    refine wpAny_pure ⟨plainId_quiet PyProof.Rows.F.plain_set_update_loop _, ih (i + 1) _ (by lia) hlt (W.frame _ _ _ hst' fun b hb o e => ?_) ?_ fun h₃ tk₃ hm₃ hS₃ => ?_⟩
    · exact hsb.extBut b o (fun q => hSf (q ▸ hb)) e
    · rw [List.range_succ, List.map_append]; exact hS2
    · refine hR h₃ tk₃ (fun b o hb e => hm₃ b o hb (hsb.extBut b o (fun q => hb (q ▸ List.mem_cons_self)) (hm b o (fun q => hb (List.mem_cons_of_mem _ q)) e))) hS₃
end

section
variable {prog : Program} {w : World} {A : Around} {E : Value → Shared → Prop} {s : Shared}

theorem set_new_led (a : Value) {Q₁ : Value → Shared → Prop}
    (h : Q₁ (.ref s.heap.objs.size) { s with heap := s.heap.push { cls := .type "set", dict := none, data := .set #[] 0 (.fresh 0 0 (!bt w)) } }) :
    codeAny (model prog w) A (.call (.builtin "set.__new__") ⟨[.type "set", a], []⟩) (wants Q₁ E) s := by
  refine codeAny_of_tree ?_
  show wpAny _ A.in1 (do checkBuiltinCall "set.__new__" ⟨[.type "set", a], []⟩; again (.builtin "set.__new__" ⟨[.type "set", a], []⟩)) _ _ s
  refine wpAny_bind (wpAny_of_eq (F.newCall_set_1 a) (wpAny_pure ⟨plainId_quiet F.plain_set_new _, codeAny_builtin F.entry_set_new ?_⟩))
  rw [Around.under_plainId F.plain_set_new _]
  unfold Builtin.«set.__new__» Builtin.Frozenset.newClass
  have hsub := sub_set_self
  obtain ⟨hp, g, d, tk, os⟩ := s
  dsimp only
  wp_walk
  refine wpAny_askSetting (wpAny_pure ?_)
  dsimp only
  simp only [newObj]
  refine wpAny_bind (wpAny_alloc (wpAny_pure ?_))
  exact wpAny_pure h

theorem setI_fresh (h : Heap) : SetI prog w (h.push { cls := .type "set", dict := none, data := .set #[] 0 (.fresh 0 0 (!bt w)) }) h.objs.size [] := by
  refine ⟨_, #[], 0, _, [], Heap.get?_push_size _ rfl, ⟨rfl, rfl, rfl⟩, rfl, fun e he => by simp at he, .nil, List.nodup_nil, fun k => Iff.rfl, by unfold scanBound; simp, rfl, ?_⟩
  refine ⟨?_, rfl, ?_⟩
  · unfold Rise SetTable.fresh; simp
  · unfold SetTable.fresh; dsimp only; cases bt w <;> simp

set_option maxHeartbeats 3200000 in
theorem call_setI {l : Addr} {items : Array Value} {ns : List Int} {Q : Value → Shared → Prop}
    (hh : A.handled = none) (hl : s.heap.IsList l items) (hi : IntsAre items.toList ns) (hb : items.size + 1 < scanBound)
    (h : ∀ (h' : Heap) (tk : Nat) (a : Addr), s.heap.get? a = none → SetI prog w h' a ns → (∀ b o, s.heap.get? b = some o → h'.get? b = some o) → Q (.ref a) { s with heap := h', toks := tk }) :
    wpAny (model prog w) A (call (.type "set") [.ref l]) Q E s := by
  have hnew : s.heap.get? s.heap.objs.size = none := by
    refine none_of fun o e => ?_
    exact absurd (Heap.lt_size e) (Nat.lt_irrefl _)
  obtain ⟨c, tl, hmro⟩ := F.called_set.mro
  have hmade := F.called_set.made
  have hsub := F.called_set.sub
  refine wpAny_call (codeAny_of_tree ?_)
  show wpAny _ _ (callAny (.type "set") _) _ _ _
  refine wpAny_pure ⟨Code.quiet_builtin _ (by decide +kernel), codeAny_builtin F.entry_type_call ?_⟩
  rw [Around.under_plain (weight_type_call_type "set" [.ref l] []) rfl]
  have h1 := F.called_set.notType
  have h2 := F.called_set.canCreate
  have hct := F.typeCall_set_1 (.ref l)
  repeat (any_goals (first | assumption | wp_step))
  refine codeAny_mono (set_new_led (.ref l) (E := E) (Q₁ := fun obj s₁ => obj = .ref s.heap.objs.size ∧ s₁ = { s with heap := s.heap.push { cls := .type "set", dict := none, data := .set #[] 0 (.fresh 0 0 (!bt w)) } }) ⟨rfl, rfl⟩) fun r s₁ hr => ?_
  cases r with
  | error e => exact hr
  | ok fl =>
    cases fl with
    | ret obj =>
      obtain ⟨rfl, rfl⟩ := hr
      have hS : (s.heap.push { cls := .type "set", dict := none, data := .set #[] 0 (.fresh 0 0 (!bt w)) }).get? s.heap.objs.size = some { cls := .type "set", dict := none, data := .set #[] 0 (.fresh 0 0 (!bt w)) } := Heap.get?_push_size _ rfl
      have hS0 := setI_fresh (prog := prog) (w := w) s.heap
      generalize hH : s.heap.push { cls := .type "set", dict := none, data := .set #[] 0 (.fresh 0 0 (!bt w)) } = H at hS hS0 ⊢
      have hHs : H.objs.size = s.heap.objs.size + 1 := by rw [← hH, Heap.size_push]
      have hT : Shared.TypeIs { s with heap := H } (.ref s.heap.objs.size) "set" := ⟨_, hS, rfl⟩
      have hli := F.called_set.init.lookup
      have hbi := F.called_set.init.bind (.ref s.heap.objs.size)
      repeat (any_goals (first | assumption | wp_step))
      refine codeAny_mono (codeAny_call_builtin (R := wants (fun r s₂ => r = .none ∧ ∃ h' tk, s₂ = { s with heap := h', toks := tk } ∧
          SetI prog w h' s.heap.objs.size ns ∧ (∀ b o, s.heap.get? b = some o → h'.get? b = some o)) E) F.called_set.init.plain F.entry_set_init (check_set_init_1 hT ?_)) fun r₂ s₂ hr₂ => ?_
      · obtain ⟨ol, hol, hcl, nl, hdl⟩ := hl
        obtain ⟨ocls, odict, odata, oslots⟩ := ol
        simp only at hcl hdl
        subst hcl; subst hdl
        have hk : ∀ b o, s.heap.get? b = some o → H.get? b = some o := fun b o e => hH ▸ Heap.get?_push_of_some _ e
        have hol' : H.get? l = some { cls := .type "list", dict := odict, data := .seq items nl, slots := oslots } := hk _ _ hol
        have hsls := F.sub_list_set
        have hslf := F.sub_list_frozenset
        have hne : (Value.type "list" == Value.type "dict") = false := by decide
        have hl1 : H.IsList l items := ⟨_, hol', rfl, nl, rfl⟩
        unfold Builtin.«set.__init__» noKeywords Builtin.Frozenset.updateFrom
        generalize hPI : pyIter = PI
        wp_walk
        subst hPI
        refine wpAny_pyIter_list hl1 ?_
        refine wpAny_bind (wpAny_runValue ?_)
        have hlS : l < s.heap.objs.size := Heap.lt_size hol
        have hh3 : A.in1.in1.in1.handled = none := by simp [hh]
        have hneI : l ≠ H.objs.size := by rw [hHs]; exact Nat.ne_of_lt (Nat.lt_succ_of_lt hlS)
        have hSf : s.heap.objs.size ∉ [H.objs.size, l] := by
          rw [hHs]; simp only [List.mem_cons, List.not_mem_nil, or_false, not_or]
          exact ⟨Nat.ne_of_lt (Nat.lt_succ_self _), Nat.ne_of_gt hlS⟩
        have hval : ∀ (i : Nat) (v : Value), items[i]? = some v → ∃ t, v = .int ((fun i => ns.getD i 0) i) t := fun i v hv =>
          IntsAre.int_at hi i v (by rw [Array.getElem?_toList]; exact hv)
        have hns : ((List.range items.size).map fun i => ns.getD i 0) = ns := by
          have hlen : items.size = ns.length := by have := hi.length; simpa using this
          rw [hlen]
          refine List.ext_getElem (by simp) fun i h1 h2 => ?_
          simp at h1
          simp [h1]
        refine update_loop (Walks.list hh3 _ l hneI items) s.heap.objs.size hSf (fun i => ns.getD i 0) hval hb (items.size - 0) 0 _ (by lia) (Nat.zero_le _)
          ⟨⟨_, Heap.get?_push_size _ rfl, rfl, rfl⟩, (hl1.push _)⟩ (hS0.at fun o e => Heap.get?_push_of_some _ e) fun h' tk' hm hS' => ?_
        rw [hns] at hS'
        show wpAny _ _ _ _ _ _
        refine wpAny_pure ?_
        show wpAny _ _ (ret Value.none) _ _ _
        refine wpAny_pure ⟨rfl, h', tk', rfl, hS', fun b o e => hm b o ?_ (Heap.get?_push_of_some _ (hk b o e))⟩
        have hb1 : b < s.heap.objs.size := Heap.lt_size e
        rw [hHs]
        simp only [List.mem_cons, List.not_mem_nil, or_false, not_or]
        exact ⟨Nat.ne_of_lt hb1, Nat.ne_of_lt (Nat.lt_succ_of_lt hb1)⟩
      · cases r₂ with
        | error e => exact hr₂
        | ok fl₂ =>
          cases fl₂ with
          | ret r =>
            obtain ⟨rfl, h', tk, rfl, hS', hk'⟩ := hr₂
            repeat (any_goals (first | assumption | wp_step))
            exact h _ _ _ hnew hS' hk'
          | _ => exact hr₂.elim
    | _ => exact hr.elim
end
end Mine
end

/-! # MS4 -/
section
set_option autoImplicit false
set_option maxRecDepth 100000
namespace Mine
open PySem PyProof.Rows

theorem slot_setiter_next : Slot "set_iterator" "__next__" "set_iterator.__next__" :=
  .of (owner := "set_iterator") (n := "__next__") (by rw [typeLookup_type, builtinLookup_eq_fast]; kernel_rfl) (by decide +kernel) (by decide +kernel) (by decide +kernel)
    (by first | exact .inl (by decide +kernel) | exact .inr (by decide +kernel)) (by rw [isSubtype_type]; kernel_rfl)
theorem slot_setiter_iter : Slot "set_iterator" "__iter__" "set_iterator.__iter__" :=
  .of (owner := "set_iterator") (n := "__iter__") (by rw [typeLookup_type, builtinLookup_eq_fast]; kernel_rfl) (by decide +kernel) (by decide +kernel) (by decide +kernel)
    (by first | exact .inl (by decide +kernel) | exact .inr (by decide +kernel)) (by rw [isSubtype_type]; kernel_rfl)
theorem entry_setiter_next : entryFor table "set_iterator.__next__" = some Builtin.«set_iterator.__next__» := entryFor_of_tree (by kernel_rfl)
theorem args_setiter_next (a : Value) : argsOk "set_iterator.__next__" ⟨[a], []⟩ := by unfold argsOk; kernel_rfl
theorem entry_set_iter : entryFor table "set.__iter__" = some Builtin.«frozenset.__iter__» :=
  entryFor_alias (id' := "frozenset.__iter__") (by kernel_rfl) rfl (by decide +kernel) (by kernel_rfl)

abbrev setIt (first : Value) (i : Int) (s : Value) (n ep : Int) : Obj := { cls := .type "set_iterator", data := .fields #[first, rawInt i, s, rawInt n, rawInt ep] }

/-- a set that stays as it is -/
structure Held (w : World) (h : Heap) (a : Addr) (o : Obj) (es : Array (Int × Value)) (ep : Nat) (t : SetTable) : Prop where
  at_ : h.get? a = some o
  exact_ : o.ExactSet
  data : o.data = .set es ep t
  fits : t.fits es.size = true
  ok : TOk (bt w) t

section
variable {prog : Program} {w : World} {A : Around} {E : Value → Shared → Prop} {s : Shared}

/-- the end of a set's walk -/
theorem setNext_stop {I : Addr} {fs : Array Value} {Q : Option Value → Shared → Prop} (hh : A.handled = none) (hI : s.heap.get? I = some { cls := .type "set_iterator", data := .fields fs }) (hk : 2 < fs.size)
    (hbody : ∀ (E' : Value → Shared → Prop) (Q' : PySem.Fin → Shared → Prop), wpAny (model prog w) A.in1 (do setField (.ref I) 2 .none; raiseNew (← newExc (.type "StopIteration") [])) Q' E' s → wpAny (model prog w) A.in1 (Builtin.«set_iterator.__next__» ⟨[.ref I], []⟩) Q' E' s)
    (hQ : ∀ h', Heap.ExtBut I s.heap h' → Q none { s with heap := h' }) : wpAny (model prog w) A (pyNext (.ref I)) Q E s := by
  have hT : s.TypeIs (.ref I) "set_iterator" := ⟨_, hI, rfl⟩
  unfold pyNext
  refine wpAny_bind (wpAny_attempt (wpAny_callSpecial?_slot (name := Str.ofString "__next__") hT slot_setiter_next (wpAny_call_entry slot_setiter_next hT entry_setiter_next (hbody _ _ ?_) (args_setiter_next _))))
  refine wpAny_bind (wpAny_setField hI rfl hk ?_)
  show wpAny _ _ (newExc (.type "StopIteration") [] >>= _) _ _ _
  refine wpAny_bind ?_
  simp only [newExc, newTuple]
  refine wpAny_bind (wpAny_newObj_type ?_ (by size_fits))
  refine wpAny_bind (m := firstArgMember _ _) (wpAny_of_eq (a := Value.none) (by first | rfl | (simp only [firstArgMember]; rfl)) ?_)
  refine wpAny_newObj_type ?_ (by size_fits)
  simp only [raiseNew]
  refine wpAny_bind (wpAny_handled ?_)
  rw [show A.in1.handled = none from hh]
  refine wpAny_bind (wpAny_pure (wpAny_throw ?_))
  refine wpAny_bind (wpAny_isInstance (T := "StopIteration") (b := true) ⟨_, Heap.get?_push_size _ rfl, rfl⟩ isSubtype_stop ?_)
  exact wpAny_pure (hQ _ (((Heap.SameBut.update ..).extBut.push _).push _))

/-- one step by the slots -/
theorem next_slot {I a : Addr} {o : Obj} {es : Array (Int × Value)} {ep : Nat} {t : SetTable} {slot i next : Nat} {x : Value} {Q : Option Value → Shared → Prop} (H : Held w s.heap a o es ep t)
    (hI : s.heap.get? I = some (setIt (rawInt slot) i (.ref a) es.size ep))
    (hn : ∀ (Q' : Option (Value × Nat) → Shared → Prop) (E' : Value → Shared → Prop), Q' (some (x, next)) s → wpAny (model prog w) A.in1 (setNext a slot i ep) Q' E' s)
    (hQ : ∀ h', h'.get? I = some (setIt (rawInt next) (i + 1 : Nat) (.ref a) es.size ep) → Heap.SameBut I s.heap h' → Q (some x) { s with heap := h' }) : wpAny (model prog w) A (pyNext (.ref I)) Q E s := by
  have hT : s.TypeIs (.ref I) "set_iterator" := ⟨_, hI, rfl⟩
  unfold pyNext
  refine wpAny_bind (wpAny_attempt (wpAny_callSpecial?_slot (name := Str.ofString "__next__") hT slot_setiter_next (wpAny_call_entry slot_setiter_next hT entry_setiter_next ?_ (args_setiter_next _))))
  unfold Builtin.«set_iterator.__next__»
  refine wpAny_bind (m := slotArgs "__next__" 0 _) (wpAny_pure ?_)
  refine wpAny_bind (wpAny_fieldsOf hI rfl ?_)
  show wpAny _ _ (setEntries a >>= _) _ _ s
  refine wpAny_bind (wpAny_setEntries_of H.at_ H.data H.fits ?_)
  show wpAny _ _ (if ((es.size : Int) != (es.size : Int)) = true then _ else _) _ _ s
  rw [if_neg (by simp)]
  show wpAny _ _ (setNext a (slot : Int).toNat (i : Int).toNat (ep : Int).toNat >>= _) _ _ s
  simp only [Int.toNat_natCast]
  refine wpAny_bind (hn _ _ ?_)
  refine wpAny_bind (wpAny_setField hI rfl (by simp) ?_)
  have h1 := Heap.get?_update_self (Obj.mapFields (·.setIfInBounds 0 (rawInt next))) hI rfl
  refine wpAny_bind (wpAny_setField h1 rfl (by simp [Obj.mapFields]) ?_)
  have h2 := Heap.get?_update_self (Obj.mapFields (·.setIfInBounds 1 (rawInt ((i : Int) + 1)))) h1 rfl
  exact wpAny_pure ⟨x, rfl, wpAny_pure (hQ _ (by rw [h2]; simp [Obj.mapFields, setIt]) ((Heap.SameBut.update ..).trans (Heap.SameBut.update ..)))⟩

theorem stop_slot {I a : Addr} {o : Obj} {es : Array (Int × Value)} {ep : Nat} {t : SetTable} {slot i : Nat} {Q : Option Value → Shared → Prop} (hh : A.handled = none) (H : Held w s.heap a o es ep t)
    (hI : s.heap.get? I = some (setIt (rawInt slot) i (.ref a) es.size ep))
    (hn : ∀ (Q' : Option (Value × Nat) → Shared → Prop) (E' : Value → Shared → Prop), Q' none s → wpAny (model prog w) A.in1 (setNext a slot i ep) Q' E' s)
    (hQ : ∀ h', Heap.ExtBut I s.heap h' → Q none { s with heap := h' }) : wpAny (model prog w) A (pyNext (.ref I)) Q E s := by
  refine setNext_stop hh hI (by simp) (fun E' Q' hq => ?_) hQ
  unfold Builtin.«set_iterator.__next__»
  refine wpAny_bind (m := slotArgs "__next__" 0 _) (wpAny_pure ?_)
  refine wpAny_bind (wpAny_fieldsOf hI rfl ?_)
  show wpAny _ _ (setEntries a >>= _) _ _ s
  refine wpAny_bind (wpAny_setEntries_of H.at_ H.data H.fits ?_)
  show wpAny _ _ (if ((es.size : Int) != (es.size : Int)) = true then _ else _) _ _ s
  rw [if_neg (by simp)]
  show wpAny _ _ (setNext a (slot : Int).toNat (i : Int).toNat (ep : Int).toNat >>= _) _ _ s
  simp only [Int.toNat_natCast]
  refine wpAny_bind (hn _ _ ?_)
  exact hq

/-- one step by a drawn order -/
theorem next_drawn {I a T : Addr} {oT o : Obj} {es : Array (Int × Value)} {ep nT : Nat} {t : SetTable} {i p : Nat} {ps : Array Value} {x : Int × Value} {Q : Option Value → Shared → Prop} (H : Held w s.heap a o es ep t)
    (hI : s.heap.get? I = some (setIt (.ref T) i (.ref a) es.size ep)) (hT' : s.heap.get? T = some oT) (hTd : oT.data = .seq ps nT) (hp : ps[i]? = some (rawInt p)) (hx : es[p]? = some x)
    (hQ : ∀ h', h'.get? I = some (setIt (.ref T) (i + 1 : Nat) (.ref a) es.size ep) → Heap.SameBut I s.heap h' → Q (some x.2) { s with heap := h' }) : wpAny (model prog w) A (pyNext (.ref I)) Q E s := by
  have hT : s.TypeIs (.ref I) "set_iterator" := ⟨_, hI, rfl⟩
  unfold pyNext
  refine wpAny_bind (wpAny_attempt (wpAny_callSpecial?_slot (name := Str.ofString "__next__") hT slot_setiter_next (wpAny_call_entry slot_setiter_next hT entry_setiter_next ?_ (args_setiter_next _))))
  unfold Builtin.«set_iterator.__next__»
  refine wpAny_bind (m := slotArgs "__next__" 0 _) (wpAny_pure ?_)
  refine wpAny_bind (wpAny_fieldsOf hI rfl ?_)
  show wpAny _ _ (setEntries a >>= _) _ _ s
  refine wpAny_bind (wpAny_setEntries_of H.at_ H.data H.fits ?_)
  show wpAny _ _ (if ((es.size : Int) != (es.size : Int)) = true then _ else _) _ _ s
  rw [if_neg (by simp)]
  show wpAny _ _ (seqItems? (.ref T) >>= _) _ _ s
  refine wpAny_bind (wpAny_seqItems hT' hTd ?_)
  dsimp only
  rw [show ps[(i : Int).toNat]? = some (rawInt p) from by simpa using hp]
  show wpAny _ _ (setNextDrawn a (p : Int).toNat (ep : Int).toNat >>= _) _ _ s
  simp only [Int.toNat_natCast]
  unfold setNextDrawn
  refine wpAny_bind (wpAny_bind (wpAny_setState_of H.at_ H.data H.fits ?_))
  dsimp only
  rw [if_neg (by simp), hx]
  refine wpAny_pure ?_
  refine wpAny_bind (wpAny_setField hI rfl (by simp) ?_)
  have h2 := Heap.get?_update_self (Obj.mapFields (·.setIfInBounds 1 (rawInt ((i : Int) + 1)))) hI rfl
  exact wpAny_pure ⟨x.2, rfl, wpAny_pure (hQ _ (by rw [h2]; simp [Obj.mapFields, setIt]) (Heap.SameBut.update ..))⟩

theorem stop_drawn {I a T : Addr} {oT o : Obj} {es : Array (Int × Value)} {ep nT : Nat} {t : SetTable} {i : Nat} {ps : Array Value} {Q : Option Value → Shared → Prop} (hh : A.handled = none) (H : Held w s.heap a o es ep t)
    (hI : s.heap.get? I = some (setIt (.ref T) i (.ref a) es.size ep)) (hT' : s.heap.get? T = some oT) (hTd : oT.data = .seq ps nT) (hp : ps[i]? = none)
    (hQ : ∀ h', Heap.ExtBut I s.heap h' → Q none { s with heap := h' }) : wpAny (model prog w) A (pyNext (.ref I)) Q E s := by
  have hT : s.TypeIs (.ref I) "set_iterator" := ⟨_, hI, rfl⟩
  unfold pyNext
  refine wpAny_bind (wpAny_attempt (wpAny_callSpecial?_slot (name := Str.ofString "__next__") hT slot_setiter_next (wpAny_call_entry slot_setiter_next hT entry_setiter_next ?_ (args_setiter_next _))))
  unfold Builtin.«set_iterator.__next__»
  refine wpAny_bind (m := slotArgs "__next__" 0 _) (wpAny_pure ?_)
  refine wpAny_bind (wpAny_fieldsOf hI rfl ?_)
  show wpAny _ _ (setEntries a >>= _) _ _ s
  refine wpAny_bind (wpAny_setEntries_of H.at_ H.data H.fits ?_)
  show wpAny _ _ (if ((es.size : Int) != (es.size : Int)) = true then _ else _) _ _ s
  rw [if_neg (by simp)]
  show wpAny _ _ (seqItems? (.ref T) >>= _) _ _ s
  refine wpAny_bind (wpAny_seqItems hT' hTd ?_)
  dsimp only
  rw [show ps[(i : Int).toNat]? = none from by simpa using hp]
  dsimp only
  refine wpAny_bind (wpAny_setField hI rfl (by simp) ?_)
  have h1 := Heap.get?_update_self (Obj.mapFields (·.setIfInBounds 0 (rawInt 0))) hI rfl
  refine wpAny_bind (wpAny_setField h1 rfl (by simp [Obj.mapFields]) ?_)
  show wpAny _ _ (newExc (.type "StopIteration") [] >>= _) _ _ _
  refine wpAny_bind ?_
  simp only [newExc, newTuple]
  refine wpAny_bind (wpAny_newObj_type ?_ (by size_fits))
  refine wpAny_bind (m := firstArgMember _ _) (wpAny_of_eq (a := Value.none) (by first | rfl | (simp only [firstArgMember]; rfl)) ?_)
  refine wpAny_newObj_type ?_ (by size_fits)
  simp only [raiseNew]
  refine wpAny_bind (wpAny_handled ?_)
  rw [show A.in1.handled = none from hh]
  refine wpAny_bind (wpAny_pure (wpAny_throw ?_))
  refine wpAny_bind (wpAny_isInstance (T := "StopIteration") (b := true) ⟨_, Heap.get?_push_size _ rfl, rfl⟩ isSubtype_stop ?_)
  exact wpAny_pure (hQ _ ((((Heap.SameBut.update ..).trans (Heap.SameBut.update ..)).extBut.push _).push _))
end
end Mine
end

/-! # MS5 -/
section
set_option autoImplicit false
set_option maxRecDepth 100000
namespace Mine
open PySem PyProof.Rows

theorem entry_setiter_iter : entryFor table "set_iterator.__iter__" = some Builtin.«dict_keyiterator.__iter__» :=
  entryFor_alias (id' := "dict_keyiterator.__iter__") (by kernel_rfl) rfl (by decide +kernel) (by kernel_rfl)
theorem args_setiter_iter (a : Value) : argsOk "set_iterator.__iter__" ⟨[a], []⟩ := by unfold argsOk; kernel_rfl

section
variable {prog : Program} {w : World} {A : Around} {E : Value → Shared → Prop} {s : Shared}

theorem iter_self {I : Addr} {fs : Array Value} {Q : Value → Shared → Prop} (hI : s.heap.get? I = some { cls := .type "set_iterator", data := .fields fs }) (hQ : Q (.ref I) s) : wpAny (model prog w) A (pyIter (.ref I)) Q E s := by
  have hT : s.TypeIs (.ref I) "set_iterator" := ⟨_, hI, rfl⟩
  refine wpAny_pyIter_slot hT slot_setiter_iter (wpAny_call_entry slot_setiter_iter hT entry_setiter_iter ?_ (args_setiter_iter _))
  show wpAny _ _ (ret (.ref I)) _ _ s
  exact wpAny_pure ⟨_, rfl, "set_iterator", _, hT, slot_setiter_next.lookup, hQ⟩

theorem choose_at {src : Source} {n : Nat} {Q : Nat → Shared → Prop} (hn : n ≠ 0) (h : Q (w.draws src (s.drawn.get src) % n) { s with drawn := s.drawn.bump src }) : wpAny (model prog w) A (choose src n) Q E s :=
  fun _ _ _ => ⟨hn, h⟩

theorem drawOrder_at {α : Type} : ∀ (n : Nat) (xs : List α) (s : Shared) {Q : List α → Shared → Prop}, xs.length = n → (∀ l dr, l.Perm xs → Q l { s with drawn := dr }) → wpAny (model prog w) A (drawOrder n xs) Q E s
  | 0, xs, s, Q, hn, h => by
    have : xs = [] := List.eq_nil_of_length_eq_zero hn
    subst this
    unfold drawOrder
    exact wpAny_pure (h [] s.drawn .nil)
  | n + 1, [], s, Q, hn, h => by cases hn
  | n + 1, x :: xs, s, Q, hn, h => by
    unfold drawOrder
    refine wpAny_bind (choose_at (by simp) ?_)
    generalize hi : w.draws .order (s.drawn.get .order) % (x :: xs).length = i
    have hlt : i < (x :: xs).length := hi ▸ Nat.mod_lt _ (by simp)
    have e : (x :: xs)[i]? = some ((x :: xs)[i]) := List.getElem?_eq_getElem hlt
    rw [e]
    dsimp only
    refine wpAny_bind (drawOrder_at n _ _ (by rw [List.length_eraseIdx_of_lt hlt]; simp at hn ⊢; lia) fun l dr hl => wpAny_pure ?_)
    exact h _ dr ((hl.cons _).trans (erase_perm hlt))

theorem setNext_text {a : Addr} {o : Obj} {es : Array (Int × Value)} {ep slot i : Nat} {t : SetTable} {Q : Option (Value × Nat) → Shared → Prop} (H : Held w s.heap a o es ep t) (hb : bt w = true)
    (h : Q (((pickOrder (w.params.setOrder a ep) es)[i]?).map fun e => (e.2, slot)) s) : wpAny (model prog w) A (setNext a slot i ep) Q E s := by
  unfold setNext
  refine wpAny_bind (wpAny_setState_of H.at_ H.data H.fits ?_)
  dsimp only
  refine wpAny_bind (byText_at ?_)
  rw [hb]
  simp only [if_true]
  rw [if_neg (by simp)]
  refine wpAny_bind ?_
  unfold setWalk
  refine wpAny_bind (wpAny_setState_of H.at_ H.data H.fits ?_)
  dsimp only
  refine wpAny_bind (byText_at ?_)
  rw [hb]
  simp only [if_true]
  exact wpAny_bind (wpAny_askSetting (wpAny_pure (wpAny_pure h)))

theorem setNext_slots {a : Addr} {o : Obj} {es : Array (Int × Value)} {ep slot i : Nat} {t : SetTable} {Q : Option (Value × Nat) → Shared → Prop} (H : Held w s.heap a o es ep t) (hb : bt w = false) (hd : (!t.plain && decide (es.size > 1)) = false)
    (h : Q (match es[SetTable.below t.place slot]?, t.place[SetTable.below t.place slot]? with | some (_, x), some j => some (x, j + 1) | _, _ => none) s) : wpAny (model prog w) A (setNext a slot i ep) Q E s := by
  unfold setNext
  refine wpAny_bind (wpAny_setState_of H.at_ H.data H.fits ?_)
  dsimp only
  refine wpAny_bind (byText_at ?_)
  rw [hb]
  simp only [Bool.false_eq_true, if_false]
  have hled : t.led = true := H.ok.led.resolve_right (by rw [hb]; decide)
  show wpAny _ _ (if (!t.plain && decide (es.size > 1)) = true then _ else _) _ _ s
  rw [hd]
  simp only [Bool.false_eq_true, if_false]
  refine wpAny_bind ?_
  show wpAny _ _ (if (!t.led && !es.isEmpty) = true then _ else _) _ _ s
  rw [hled]
  simp only [Bool.not_true, Bool.false_and, Bool.false_eq_true, if_false]
  exact wpAny_pure (wpAny_pure h)
end

/-! ## the three walks -/
theorem Held.at' {w : World} {h h' : Heap} {a : Addr} {o : Obj} {es : Array (Int × Value)} {ep : Nat} {t : SetTable} (H : Held w h a o es ep t) (k : ∀ o, h.get? a = some o → h'.get? a = some o) : Held w h' a o es ep t :=
  ⟨k o H.at_, H.exact_, H.data, H.fits, H.ok⟩

section
variable {prog : Program} {w : World} {A : Around}

theorem walks_text (hh : A.handled = none) (I a : Addr) (hne : a ≠ I) (o : Obj) (es : Array (Int × Value)) (ep : Nat) (t : SetTable) (hb : bt w = true) :
    Walks prog w A I [I, a] [I] es.size (fun i v => ∃ e, (pickOrder (w.params.setOrder a ep) es)[i]? = some e ∧ v = e.2)
      (fun i h => h.get? I = some (setIt (rawInt (0 : Nat)) i (.ref a) es.size ep) ∧ Held w h a o es ep t) where
  sub := fun b hb => by simp at hb; simp [hb]
  frame := fun _ _ _ st hk => ⟨hk I (by simp) _ st.1, st.2.at' fun o e => hk a (by simp) o e⟩
  item := fun i s Q E hi st hQ => by
    have hsz : (pickOrder (w.params.setOrder a ep) es).size = es.size := by
      have := (pickOrder_perm (w.params.setOrder a ep) es).length_eq; simpa using this
    have e : (pickOrder (w.params.setOrder a ep) es)[i]? = some ((pickOrder (w.params.setOrder a ep) es)[i]'(by lia)) := by simp [hsz, hi]
    refine next_slot st.2 st.1 (fun Q' E' hq => setNext_text st.2 hb (by rw [e]; exact hq)) fun h' hI' hs' => ?_
    exact hQ _ h' s.toks ⟨_, e, rfl⟩ ⟨hI', st.2.at' fun o e => hs'.extBut a o hne e⟩ fun b o hb e => hs'.extBut b o (fun h => hb (by simp [h])) e
  done := fun s Q E st hQ => by
    have hsz : (pickOrder (w.params.setOrder a ep) es).size = es.size := by
      have := (pickOrder_perm (w.params.setOrder a ep) es).length_eq; simpa using this
    refine stop_slot hh st.2 st.1 (fun Q' E' hq => setNext_text st.2 hb (by rw [Array.getElem?_eq_none (by lia)]; exact hq)) fun h' he => ?_
    exact hQ h' s.toks fun b o hb e => he b o (fun h => hb (by simp [h])) e
  self := fun i s Q E st hQ => iter_self st.1 hQ

theorem walks_slots (hh : A.handled = none) (I a : Addr) (hne : a ≠ I) (o : Obj) (es : Array (Int × Value)) (ep : Nat) (t : SetTable) (hb : bt w = false) (hd : (!t.plain && decide (es.size > 1)) = false) :
    Walks prog w A I [I, a] [I] es.size (fun i v => ∃ e, es[i]? = some e ∧ v = e.2)
      (fun i h => h.get? I = some (setIt (rawInt ((if i = 0 then 0 else t.place.getD (i - 1) 0 + 1 : Nat))) i (.ref a) es.size ep) ∧ Held w h a o es ep t) where
  sub := fun b hb => by simp at hb; simp [hb]
  frame := fun _ _ _ st hk => ⟨hk I (by simp) _ st.1, st.2.at' fun o e => hk a (by simp) o e⟩
  item := fun i s Q E hi st hQ => by
    have hsz : t.place.size = es.size := by
      have := st.2.fits; simp only [SetTable.fits, Bool.and_eq_true, beq_iff_eq] at this; exact this.1
    have hw := walk_at st.2.ok.rise i (by lia)
    have e : es[i]? = some (es[i]) := by simp [hi]
    have ep' : t.place[i]? = some (t.place[i]'(by lia)) := by simp [hsz, hi]
    refine next_slot (x := (es[i]).2) (next := t.place.getD i 0 + 1) st.2 st.1 (fun Q' E' hq => setNext_slots st.2 hb hd ?_) fun h' hI' hs' => ?_
    · rw [hw, e, ep']
      have : t.place.getD i 0 = t.place[i]'(by lia) := by simp [Array.getD, hsz, hi]
      rw [← this]; exact hq
    · refine hQ _ h' s.toks ⟨_, e, rfl⟩ ⟨?_, st.2.at' fun o e => hs'.extBut a o hne e⟩ fun b o hb e => hs'.extBut b o (fun h => hb (by simp [h])) e
      simpa using hI'
  done := fun s Q E st hQ => by
    have hsz : t.place.size = es.size := by
      have := st.2.fits; simp only [SetTable.fits, Bool.and_eq_true, beq_iff_eq] at this; exact this.1
    have hw := walk_at st.2.ok.rise es.size (by lia)
    refine stop_slot hh st.2 st.1 (fun Q' E' hq => setNext_slots st.2 hb hd ?_) fun h' he => ?_
    · rw [hw, Array.getElem?_eq_none (Nat.le_refl _)]; exact hq
    · exact hQ h' s.toks fun b o hb e => he b o (fun h => hb (by simp [h])) e
  self := fun i s Q E st hQ => iter_self st.1 hQ

theorem walks_drawn (hh : A.handled = none) (I a T : Addr) (hne : a ≠ I) (hneT : T ≠ I) (o oT : Obj) (nT : Nat) (es : Array (Int × Value)) (ep : Nat) (t : SetTable) (l : List Nat) (hl : l.Perm (List.range es.size)) (hTd : oT.data = .seq (l.map fun i : Nat => rawInt i).toArray nT) :
    Walks prog w A I [I, a, T] [I] es.size (fun i v => ∃ p e, l[i]? = some p ∧ es[p]? = some e ∧ v = e.2)
      (fun i h => h.get? I = some (setIt (.ref T) i (.ref a) es.size ep) ∧ Held w h a o es ep t ∧ h.get? T = some oT) where
  sub := fun b hb => by simp at hb; simp [hb]
  frame := fun _ _ _ st hk => ⟨hk I (by simp) _ st.1, st.2.1.at' fun o e => hk a (by simp) o e, hk T (by simp) _ st.2.2⟩
  item := fun i s Q E hi st hQ => by
    have hlen : l.length = es.size := by simpa using hl.length_eq
    have hil : i < l.length := by lia
    have hp : l[i] < es.size := by simpa using hl.mem_iff.mp (List.getElem_mem hil)
    have e : es[l[i]]? = some (es[l[i]]) := by simp [hp]
    have e2 : ((l.map fun i : Nat => rawInt i).toArray)[i]? = some (rawInt (l[i] : Nat)) := by simp [hil]
    refine next_drawn st.2.1 st.1 st.2.2 hTd e2 e fun h' hI' hs' => ?_
    exact hQ _ h' s.toks ⟨_, _, by simp [hil], e, rfl⟩ ⟨hI', st.2.1.at' fun o e => hs'.extBut a o hne e, hs'.extBut T _ hneT st.2.2⟩ fun b o hb e => hs'.extBut b o (fun h => hb (by simp [h])) e
  done := fun s Q E st hQ => by
    have hlen : l.length = es.size := by simpa using hl.length_eq
    refine stop_drawn hh st.2.1 st.1 st.2.2 hTd (by simp [hlen]) fun h' he => ?_
    exact hQ h' s.toks fun b o hb e => he b o (fun h => hb (by simp [h])) e
  self := fun i s Q E st hQ => iter_self st.1 hQ
end
end Mine
end

/-! # MS6 -/
section
set_option autoImplicit false
set_option maxRecDepth 100000
namespace Mine
open PySem PyProof.Rows

section
variable {prog : Program} {w : World} {A : Around} {E : Value → Shared → Prop} {s : Shared}

theorem filterMap_map_of {α β : Type} {f : α → Option β} {g : α → β} : ∀ {l : List α}, (∀ x ∈ l, f x = some (g x)) → l.filterMap f = l.map g
  | [], _ => rfl
  | x :: l, h => by rw [List.filterMap_cons_some (h x (.head _)), filterMap_map_of fun y hy => h y (.tail _ hy)]; rfl

/-- what a set's walk yields -/
def Yields (P : Nat → Value → Prop) (n : Nat) (vs : List Value) : Prop := ∀ acc : Array Value, ItemsOf P acc n → acc.toList.Perm vs

theorem iter_set {a : Addr} {o : Obj} {es : Array (Int × Value)} {ep : Nat} {t : SetTable} {Q : Value → Shared → Prop} (hh : A.handled = none) (H : Held w s.heap a o es ep t) (hsz : es.size < scanBound)
    (hQ : ∀ I fp P St h' dr, Walks prog w A I fp [I] es.size P St → St 0 h' → (∀ b o, s.heap.get? b = some o → h'.get? b = some o) → s.heap.get? I = none → (∀ b ∈ fp, b < h'.objs.size) → s.heap.objs.size ≤ I → (∀ b ∈ fp, b = a ∨ s.heap.objs.size ≤ b) →
      Yields P es.size (es.toList.map (·.2)) → Q (.ref I) { s with heap := h', drawn := dr }) : wpAny (model prog w) A (pyIter (.ref a)) Q E s := by
  have hT : s.TypeIs (.ref a) "set" := ⟨o, H.at_, H.exact_.1⟩
  have ha : a < s.heap.objs.size := Heap.lt_size H.at_
  have hnew : ∀ b : Nat, s.heap.objs.size ≤ b → s.heap.get? b = none := fun b hb => by
    refine none_of fun o e => ?_
    exact absurd (Heap.lt_size e) (Nat.not_lt.mpr hb)
  refine wpAny_pyIter_slot hT F.slot_set_iter (wpAny_call_entry F.slot_set_iter hT entry_set_iter ?_ (F.args_set_iter_1 _))
  unfold Builtin.«frozenset.__iter__» Builtin.Frozenset.slot0 slotArgs
  simp only [List.isEmpty_nil, Bool.not_true, Bool.false_eq_true, ↓reduceIte, bind_assoc, List.length_nil, bne_self_eq_false]
  unfold Builtin.Frozenset.addrOf Builtin.Frozenset.sizeOf
  refine wpAny_bind (wpAny_pure ?_)
  try dsimp only
  refine wpAny_bind (wpAny_pure ?_)
  refine wpAny_bind (wpAny_bind (wpAny_setEntries_of H.at_ H.data H.fits (wpAny_pure ?_)))
  refine wpAny_bind ?_
  unfold setDrawn
  refine wpAny_bind (wpAny_setState_of H.at_ H.data H.fits ?_)
  dsimp only
  refine wpAny_bind (byText_at (wpAny_pure ?_))
  show wpAny _ _ (if (!bt w && (!t.plain && decide (es.size > 1))) = true then _ else _) _ _ s
  -- what is done with the first field
  have fin : ∀ (first : Value) (h₁ : Heap) (dr : Drawn), (∀ b o, s.heap.get? b = some o → h₁.get? b = some o) →
      (∀ I h', I = h₁.objs.size → h' = h₁.push (setIt first (0 : Nat) (.ref a) es.size ep) → Q (.ref I) { s with heap := h', drawn := dr }) →
      wpAny (model prog w) A.in1 (do
        let epv ← setEpoch a
        let r ← newFields "set_iterator" [first, rawInt 0, .ref a, rawInt es.size, rawInt epv]
        ret r) (fun fin s' => ∃ v, fin = .done (.ret v) ∧ ∃ T' r, s'.TypeIs v T' ∧ typeLookup (.type T') "__next__" = pure (some r) ∧ Q v s') E { s with heap := h₁, drawn := dr } := by
    intro first h₁ dr hk hq
    refine wpAny_bind (wpAny_setEpoch_of (hk _ _ H.at_) H.data H.fits ?_)
    refine wpAny_bind (wpAny_newObj_type (wpAny_pure ⟨_, rfl, "set_iterator", _, ⟨_, Heap.get?_push_size _ rfl, rfl⟩, slot_setiter_next.lookup, ?_⟩))
    exact hq _ _ rfl rfl
  have hx : ∀ {P : Nat → Value → Prop} {vs : List Value} {n : Nat}, vs.length = n → (∀ i v, P i v → vs[i]? = some v) → Yields P n vs := by
    intro P vs n hn hp acc hacc
    have : acc.toList = vs := by
      refine List.ext_getElem? fun i => ?_
      by_cases hi : i < n
      · have hia : i < acc.size := by rw [hacc.1]; exact hi
        have e : acc[i]? = some acc[i] := by simp [hia]
        have := hp i _ (hacc.2 i _ e)
        rw [this]; simp [hia]
      · rw [List.getElem?_eq_none (by rw [Array.length_toList, hacc.1]; omega), List.getElem?_eq_none (by omega)]
    rw [this]
  by_cases hd : (!bt w && (!t.plain && decide (es.size > 1))) = true
  · rw [if_pos hd]
    refine wpAny_bind (drawOrder_at es.size (List.range es.size) s (by simp) fun l dr hl => ?_)
    refine wpAny_bind <| wpAny_newTuple (items := l.map fun i : Nat => rawInt i) ?_ (fits_of_scanBound (by rw [List.length_map, hl.length_eq, List.length_range]; exact hsz))
    generalize hH : s.heap.push { cls := .type "tuple", data := .seq (l.map fun i : Nat => rawInt i).toArray } = H₁
    have hHs : H₁.objs.size = s.heap.objs.size + 1 := by rw [← hH, Heap.size_push]
    have hT₁ : H₁.get? s.heap.objs.size = some { cls := .type "tuple", data := .seq (l.map fun i : Nat => rawInt i).toArray } := hH ▸ Heap.get?_push_size _ rfl
    have hk₁ : ∀ b o, s.heap.get? b = some o → H₁.get? b = some o := fun b o e => hH ▸ Heap.get?_push_of_some _ e
    refine fin _ H₁ dr hk₁ fun I h' hI hh' => ?_
    subst hI hh'
    have hlen : l.length = es.size := by simpa using hl.length_eq
    refine hQ _ _ _ _ _ dr (walks_drawn hh H₁.objs.size a s.heap.objs.size (by rw [hHs]; exact Nat.ne_of_lt (Nat.lt_succ_of_lt ha)) (by rw [hHs]; exact Nat.ne_of_lt (Nat.lt_succ_self _)) o _ 0 es ep t l hl rfl)
      ⟨Heap.get?_push_size _ rfl, H.at' fun o e => Heap.get?_push_of_some _ (hk₁ a o e), Heap.get?_push_of_some _ hT₁⟩ (fun b o e => Heap.get?_push_of_some _ (hk₁ b o e)) (hnew _ (by rw [hHs]; exact Nat.le_succ _)) ?_ (by rw [hHs]; exact Nat.le_succ _) ?_ ?_
    · intro b hb
      rw [Heap.size_push, hHs]
      simp at hb
      rcases hb with rfl | rfl | rfl
      · rw [hHs]; exact Nat.lt_succ_self _
      · exact Nat.lt_succ_of_lt (Nat.lt_succ_of_lt ha)
      · exact Nat.lt_succ_of_lt (Nat.lt_succ_self _)
    · intro b hb
      simp at hb
      rcases hb with rfl | rfl | rfl
      · right; rw [hHs]; exact Nat.le_succ _
      · exact .inl rfl
      · right; exact Nat.le_refl _
    · intro acc hacc
      have e : acc.toList = l.filterMap fun p => (es[p]?).map (·.2) := by
        have : l.filterMap (fun p => (es[p]?).map (·.2)) = l.map fun p => (es.getD p (0, .none)).2 := by
          refine filterMap_map_of fun p hp => ?_
          have hp' : p < es.size := by simpa using hl.mem_iff.mp hp
          simp [Array.getD, hp']
        rw [this]
        refine List.ext_getElem (by simp [hacc.1, hlen]) fun i h1 h2 => ?_
        have hia : i < acc.size := by simpa using h1
        have e : acc[i]? = some acc[i] := by simp [hia]
        obtain ⟨p, e', q1, q2, q3⟩ := hacc.2 i _ e
        have hil : i < l.length := by simpa using h2
        simp only [Array.getElem_toList, List.getElem_map]
        rw [q3]
        have : l[i] = p := by rw [List.getElem?_eq_getElem hil] at q1; exact Option.some.inj q1
        rw [this]
        obtain ⟨hp, rfl⟩ := Array.getElem?_eq_some_iff.mp q2
        simp [Array.getD, hp]
      rw [e]
      have := hl.filterMap fun p => (es[p]?).map (·.2)
      refine this.trans (List.Perm.of_eq ?_)
      have h2 := filterMap_getElem?_range es
      rw [← h2, List.map_filterMap]
  · rw [if_neg hd]
    refine wpAny_bind (wpAny_pure ?_)
    have hk₁ : ∀ b o, s.heap.get? b = some o → s.heap.get? b = some o := fun b o e => e
    refine fin _ s.heap s.drawn hk₁ fun I h' hI hh' => ?_
    subst hI hh'
    have hne : a ≠ s.heap.objs.size := Nat.ne_of_lt ha
    have hfp : ∀ b ∈ [s.heap.objs.size, a], b < (s.heap.push (setIt (rawInt 0) (0 : Nat) (.ref a) es.size ep)).objs.size := fun b hb => by
      rw [Heap.size_push]
      simp at hb
      rcases hb with rfl | rfl
      · exact Nat.lt_succ_self _
      · exact Nat.lt_succ_of_lt ha
    have hfp2 : ∀ b ∈ [s.heap.objs.size, a], b = a ∨ s.heap.objs.size ≤ b := fun b hb => by
      simp at hb
      rcases hb with rfl | rfl
      · exact .inr (Nat.le_refl _)
      · exact .inl rfl
    cases hb : bt w with
    | true =>
      refine hQ _ _ _ _ _ _ (walks_text hh s.heap.objs.size a hne o es ep t hb) ⟨Heap.get?_push_size _ rfl, H.at' fun o e => Heap.get?_push_of_some _ e⟩ (fun b o e => Heap.get?_push_of_some _ e) (hnew _ (Nat.le_refl _)) hfp (Nat.le_refl _) hfp2 ?_
      intro acc hacc
      have hp := pickOrder_perm (w.params.setOrder a ep) es
      refine (hx (vs := (pickOrder (w.params.setOrder a ep) es).toList.map (·.2)) (by simpa using hp.length_eq) (fun i v hv => ?_) acc hacc).trans (hp.map _)
      obtain ⟨e, q1, q2⟩ := hv
      rw [List.getElem?_map, Array.getElem?_toList, q1, q2]; rfl
    | false =>
      have hd' : (!t.plain && decide (es.size > 1)) = false := by rw [hb] at hd; simpa using hd
      refine hQ _ _ _ _ _ _ (walks_slots hh s.heap.objs.size a hne o es ep t hb hd') ⟨Heap.get?_push_size _ rfl, H.at' fun o e => Heap.get?_push_of_some _ e⟩ (fun b o e => Heap.get?_push_of_some _ e) (hnew _ (Nat.le_refl _)) hfp (Nat.le_refl _) hfp2 ?_
      refine hx (by simp) fun i v hv => ?_
      obtain ⟨e, q1, q2⟩ := hv
      rw [List.getElem?_map, Array.getElem?_toList, q1, q2]; rfl
end
end Mine
end

/-! # MS7 -/
section
set_option autoImplicit false
set_option maxRecDepth 100000
namespace Mine
open PySem PyProof.Rows

theorem split_set_len : splitId "set.__len__" = some ("set", "__len__") := by decide +kernel

theorem perm_ints {vs ws : List Value} (hp : vs.Perm ws) : ∀ {ns : List Int}, IntsAre ws ns → ∃ ms, IntsAre vs ms ∧ ms.Perm ns := by
  induction hp with
  | nil => intro ns h; cases h; exact ⟨[], .nil, .nil⟩
  | cons x _ ih => intro ns h; cases h with | cons n t h => obtain ⟨ms, q1, q2⟩ := ih h; exact ⟨n :: ms, .cons n t q1, q2.cons n⟩
  | swap x y l => intro ns h; cases h with | cons n t h => cases h with | cons m u h => exact ⟨_, .cons _ _ (.cons _ _ h), .swap _ _ _⟩
  | trans _ _ ih1 ih2 => intro ns h; obtain ⟨ms, q1, q2⟩ := ih2 h; obtain ⟨ls, q3, q4⟩ := ih1 q1; exact ⟨ls, q3, q4.trans q2⟩

section
variable {prog : Program} {w : World} {A : Around} {E : Value → Shared → Prop} {s : Shared}

theorem collect_set {a : Addr} {S : List Int} {Q : List Value → Shared → Prop} (hh : A.handled = none) (H : SetI prog w s.heap a S)
    (hQ : ∀ vs ns s', Kp s s' → IntsAre vs ns → ns.Nodup → (∀ k, k ∈ ns ↔ k ∈ S) → vs.length < scanBound → Q vs s') : wpAny (model prog w) A (collect (.ref a)) Q E s := by
  obtain ⟨o, es, ep, t, ms, ho, hx, hd, hel, hi, hn, hm, hsz, hf, hok⟩ := H
  have ha : a < s.heap.objs.size := Heap.lt_size ho
  unfold collect
  refine wpAny_bind (wpAny_runValue (codeAny_builtin PySem.F.entry_proto_collect ?_))
  rw [Around.under_plainId PySem.F.plain_proto_collect _]
  show wpAny _ A.in1 (newList [] >>= fun l => again (.builtin "list.__iadd__" ⟨[l, .ref a], []⟩)) _ _ s
  refine wpAny_bind (wpAny_newObj_type ?_)
  refine wpAny_pure ⟨plainId_quiet PySem.F.plain_list_iadd _, codeAny_builtin PySem.F.entry_list_iadd ?_⟩
  rw [Around.under_plainId PySem.F.plain_list_iadd _]
  generalize hH : s.heap.push { cls := .type "list", data := .seq ([] : List Value).toArray } = H₁
  have hk₁ : ∀ b o, s.heap.get? b = some o → H₁.get? b = some o := fun b o e => hH ▸ Heap.get?_push_of_some _ e
  have hS₁ : H₁.get? s.heap.objs.size = some { cls := .type "list", data := .seq ([] : List Value).toArray } := hH ▸ Heap.get?_push_size _ rfl
  have hSs : H₁.objs.size = s.heap.objs.size + 1 := by rw [← hH, Heap.size_push]
  have hSa : s.heap.objs.size ≠ a := Nat.ne_of_gt ha
  have h1 : Builtin.List.listSameRef (.ref s.heap.objs.size) (.ref a) = false := by simp [Builtin.List.listSameRef, hSa]
  have hT : Shared.TypeIs { s with heap := H₁ } (.ref a) "set" := ⟨o, hk₁ _ _ ho, hx.1⟩
  show wpAny _ A.in1 (Builtin.List.listExtendWith (.ref s.heap.objs.size) (.ref a) (.ref s.heap.objs.size)) _ _ { s with heap := H₁ }
  unfold Builtin.List.listExtendWith
  refine wpAny_bind (wpAny_typeOf hT ?_)
  rw [if_neg (by rw [h1]; decide)]
  refine wpAny_bind (iter_set (s := { s with heap := H₁ }) (A := A.in1) (by simp [hh]) ⟨hk₁ _ _ ho, hx, hd, hf, hok⟩ hsz fun I fp P St h' dr W st hk hI hfp hIn hfp2 hY => ?_)
  dsimp only
  have hT' : Shared.TypeIs { s with heap := h', drawn := dr } (.ref a) "set" := ⟨o, hk _ _ (hk₁ _ _ ho), hx.1⟩
  refine wpAny_bind (wpAny_holding ?_)
  unfold Builtin.List.listLengthHint
  refine wpAny_bind (wpAny_specialOf hT' F.slot_set_len.lookup ?_)
  (generalize hid : ("set.__len__" : String) = id0; (fail_if_success (clear hid id0)); wp_delta; rw [show splitId id0 = some ("set", "__len__") from by subst hid; exact split_set_len]; subst hid)
  refine wpAny_bind (wpAny_isInstance (b := true) hT' (by rw [isSubtype_type]; kernel_rfl) ?_)
  rw [if_neg (by decide)]
  rw [if_pos (by decide +kernel)]
  refine wpAny_bind (wpAny_typeOf hT' ?_)
  refine wpAny_pure ?_
  rw [if_pos (by decide +kernel)]
  refine wpAny_bind (wpAny_rule ?_)
  unfold Builtin.List.listTouch
  have hS' : h'.get? s.heap.objs.size = some (seqObj "list" #[] 0) := hk _ _ hS₁
  refine wpAny_bind (wpAny_bind (listUpdate_at hS' rfl ?_ (hsz := by simp) (hsz2 := by simp)))
  have e1 := get?_update_seq hS' (·.push .none)
  refine listUpdate_at e1 rfl ?_ (hsz := by simp [sizeLine_eq]) (hsz2 := by simp)
  have e2 := get?_update_seq e1 (·.pop)
  dsimp only
  generalize hH3 : (h'.update s.heap.objs.size (Obj.mapSeq (·.push .none))).update s.heap.objs.size (Obj.mapSeq (·.pop)) = H₃ at e2 ⊢
  have hk₃ : ∀ b o, b ≠ s.heap.objs.size → h'.get? b = some o → H₃.get? b = some o := fun b o hb e => by
    rw [← hH3, Heap.get?_update_ne _ _ _ _ hb, Heap.get?_update_ne _ _ _ _ hb]; exact e
  have hSf : s.heap.objs.size ∉ fp := fun hm => by
    rcases hfp2 _ hm with q | q
    · exact hSa q
    · exact absurd q (by show ¬ H₁.objs.size ≤ s.heap.objs.size; rw [hSs]; exact Nat.not_succ_le_self _)
  refine wpAny_pure ⟨plainId_quiet PySem.F.plain_extend_loop _, codeAny_extend_loopS W.toS (fits_of_scanBound hsz) _ hSf _ es.size 0 _ _ _ rfl (Nat.zero_le _)
    (W.frame 0 _ _ st fun b hb o e => hk₃ b o (fun q => hSf (q ▸ hb)) e) e2 (ItemsOf.nil P) fun s' acc' c' hmv hS'' hacc => ?_⟩
  show wpAny _ A (load s.heap.objs.size >>= _) _ _ s'
  refine wpAny_bind (wpAny_load hS'' ?_)
  have hold : ∀ b o, s.heap.get? b = some o → b ≠ s.heap.objs.size := fun b o e q => by
    have := Heap.lt_size e; rw [q] at this; exact Nat.lt_irrefl _ this
  have hp := hY acc' hacc
  obtain ⟨ns', h1', h2'⟩ := perm_ints hp hi
  refine wpAny_pure (hQ acc'.toList ns' s' ⟨fun b o e => hmv.heap b o ?_ (hk₃ b o (hold b o e) (hk b o (hk₁ b o e))), ⟨hmv.os, hmv.gens⟩⟩ h1' (h2'.nodup_iff.mpr hn) (fun k => h2'.mem_iff.trans (hm k)) ?_)
  · intro q
    rcases List.mem_cons.mp q with q | q
    · exact hold b o e q
    · rw [List.mem_singleton] at q
      have h2 : H₁.get? I = none := hI
      rw [← q, hk₁ b o e] at h2; cases h2
  · rw [Array.length_toList, hacc.1]; exact hsz
end
end Mine
end

/-! # MS8 -/
section
set_option autoImplicit false
set_option maxRecDepth 100000
namespace Mine
open PySem PySem.Calls PyProof.Rows

/-! ## the sorted form of a set of ints -/
def ins (x : Int) : List Int → List Int
  | [] => [x]
  | y :: l => if x < y then x :: y :: l else if x = y then y :: l else y :: ins x l
def norm (S : List Int) : List Int := S.foldr ins []

theorem mem_ins {x k : Int} : ∀ {l : List Int}, k ∈ ins x l ↔ k = x ∨ k ∈ l
  | [] => by simp [ins]
  | y :: l => by
    unfold ins
    split
    · simp
    · split
      · rename_i h; subst h; simp
      · simp [mem_ins (l := l)]; constructor
        · rintro (h | h | h) <;> simp [h]
        · rintro (h | h | h) <;> simp [h]
theorem mem_norm {k : Int} : ∀ {S : List Int}, k ∈ norm S ↔ k ∈ S
  | [] => by simp [norm]
  | x :: S => by
    show k ∈ ins x (norm S) ↔ _
    rw [mem_ins, mem_norm (S := S)]; simp
theorem ins_lt {x : Int} : ∀ {l : List Int}, l.Pairwise (· < ·) → (ins x l).Pairwise (· < ·)
  | [], _ => by simp [ins]
  | y :: l, h => by
    rw [List.pairwise_cons] at h
    unfold ins
    split
    · rename_i hx
      refine List.pairwise_cons.mpr ⟨fun k hk => ?_, List.pairwise_cons.mpr h⟩
      rcases List.mem_cons.mp hk with q | q
      · lia
      · have := h.1 k q; lia
    · split
      · exact List.pairwise_cons.mpr h
      · rename_i h1 h2
        refine List.pairwise_cons.mpr ⟨fun k hk => ?_, ins_lt h.2⟩
        rcases mem_ins.mp hk with q | q
        · lia
        · exact h.1 k q
theorem norm_lt : ∀ (S : List Int), (norm S).Pairwise (· < ·)
  | [] => .nil
  | _ :: S => ins_lt (norm_lt S)
theorem lt_ext : ∀ {l m : List Int}, l.Pairwise (· < ·) → m.Pairwise (· < ·) → (∀ k, k ∈ l ↔ k ∈ m) → l = m
  | [], [], _, _, _ => rfl
  | [], y :: m, _, _, h => by have := (h y).mpr (.head _); cases this
  | x :: l, [], _, _, h => by have := (h x).mp (.head _); cases this
  | x :: l, y :: m, hl, hm, h => by
    rw [List.pairwise_cons] at hl hm
    have hxy : x = y := by
      rcases List.mem_cons.mp ((h x).mp (.head _)) with q | q
      · exact q
      · rcases List.mem_cons.mp ((h y).mpr (.head _)) with z | z
        · exact z.symm
        · have := hm.1 x q; have := hl.1 y z; lia
    subst hxy
    rw [lt_ext hl.2 hm.2 fun k => ?_]
    constructor
    · intro q
      rcases List.mem_cons.mp ((h k).mp (.tail _ q)) with z | z
      · have := hl.1 k q; lia
      · exact z
    · intro q
      rcases List.mem_cons.mp ((h k).mpr (.tail _ q)) with z | z
      · have := hm.1 k q; lia
      · exact z
theorem norm_of {S l : List Int} (hn : l.Nodup) (hp : l.Pairwise (· ≤ ·)) (hm : ∀ k, k ∈ l ↔ k ∈ S) : l = norm S := by
  refine lt_ext ?_ (norm_lt S) fun k => (hm k).trans mem_norm.symm
  have := hp.and hn
  exact this.imp fun h => by lia
theorem norm_length_le (S : List Int) : (norm S).length ≤ S.length :=
  nodup_len ((norm_lt S).imp fun h => by lia) fun _ h => mem_norm.mp h
/-- list.sort() sorts ints, fewer than N -/
def SortLt (N : Nat) : Prop := ∀ (prog : Program) (w : World) (A : Around) (E : Value → Shared → Prop) (s : Shared) (a : Addr) (vs : List Value) (ns : List Int) (n : Nat) (P : Fin → Shared → Prop),
  s.heap.get? a = some (seqObj "list" vs.toArray n) → IntsAre vs ns → vs.length < N →
  (∀ (out : Array Value) (ns' : List Int), IntsAre out.toList ns' → ns'.Perm ns → ns'.Pairwise (· ≤ ·) → P (.done (.ret .none)) { s with heap := sortedHeap s.heap a vs out }) →
  wpAny (model prog w) A (Builtin.«list.sort» ⟨[.ref a], []⟩) P E s
theorem sortLt64 : SortLt 64 := fun _ _ _ _ _ _ _ _ _ _ ho hI h64 h => list_sort_tree ho hI h64 h

section
variable {prog : Program} {w : World} {A : Around} {E : Value → Shared → Prop} {s : Shared}

theorem sortedHeap_at {h : Heap} {a : Addr} {vs : List Value} {n : Nat} {out : Array Value} (ho : h.get? a = some (seqObj "list" vs.toArray n)) : ∃ e, (sortedHeap h a vs out).get? a = some (seqObj "list" out e) := by
  have ha : a < h.objs.size := Heap.lt_size ho
  have e1 := get?_update_seq ho (fun _ => #[])
  have e2 : (((h.update a (Obj.mapSeq fun _ => #[])).push (seqObj "tuple" vs.toArray 0)).push (seqObj "list" #[] 0)).get? a = _ := Heap.get?_push_of_some _ (Heap.get?_push_of_some _ e1)
  exact ⟨_, get?_update_seq e2 (fun _ => out)⟩
theorem sortedHeap_keep {h : Heap} {a b : Addr} {o : Obj} {vs : List Value} {out : Array Value} (hb : b ≠ a) (e : h.get? b = some o) : (sortedHeap h a vs out).get? b = some o := by
  unfold sortedHeap
  rw [Heap.get?_update_ne _ _ _ _ hb]
  refine Heap.get?_push_of_some _ (Heap.get?_push_of_some _ ?_)
  rw [Heap.get?_update_ne _ _ _ _ hb]; exact e

theorem sorted_setI {N : Nat} (hN : SortLt N) {a : Addr} {S : List Int} {Q : Value → Shared → Prop} (hh : A.handled = none) (H : SetI prog w s.heap a S) (hS : (norm S).length < N)
    (hQ : ∀ b vs s', Kp s s' → s.heap.get? b = none → PL s'.heap b vs → IntsAre vs.toList (norm S) → Q (.ref b) s') : wpAny (model prog w) A (call (.builtin "sorted") [.ref a]) Q E s := by
  refine Calls.call_function_entry kind_sorted plain_sorted entry_sorted (args_sorted1 _) ?_
  unfold Builtin.«sorted»
  refine wpAny_bind (m := checkCount "sorted" 1 1 _) (wpAny_pure ?_)
  refine wpAny_bind (collect_set (by simp [hh]) H fun vs ns s₁ k₁ hI hn hm hb => ?_)
  have hlen : vs.length = ns.length := hI.length
  have hnl : ns.length = (norm S).length := by
    refine Nat.le_antisymm (nodup_len hn fun k hk => mem_norm.mpr ((hm k).mp hk)) (nodup_len ((norm_lt S).imp fun h => by lia) fun k hk => (hm k).mpr (mem_norm.mp hk))
  refine wpAny_bind (wpAny_newList ?_ (fits_of_scanBound hb))
  have hnew : s₁.heap.get? s₁.heap.objs.size = none := by
    refine none_of fun o e => ?_
    exact absurd (Heap.lt_size e) (Nat.lt_irrefl _)
  show wpAny _ _ _ _ _ { s₁ with heap := s₁.heap.push (seqObj "list" vs.toArray 0) }
  have hoL : (s₁.heap.push (seqObj "list" vs.toArray 0)).get? s₁.heap.objs.size = some (seqObj "list" vs.toArray 0) := Heap.get?_push_size _ rfl
  have hk2 : ∀ b o, s.heap.get? b = some o → b ≠ s₁.heap.objs.size ∧ (s₁.heap.push (seqObj "list" vs.toArray 0)).get? b = some o := fun b o e => by
    have e' := k₁.sub b o e
    exact ⟨fun q => (by rw [q, hnew] at e'; cases e'), Heap.get?_push_of_some _ e'⟩
  have hfr : s.heap.get? s₁.heap.objs.size = none := by
    refine none_of fun o e => ?_
    exact absurd rfl (hk2 _ o e).1
  generalize s₁.heap.push (seqObj "list" vs.toArray 0) = H₁ at hoL hk2 ⊢
  generalize s₁.heap.objs.size = L at hoL hk2 hfr ⊢
  refine wpAny_bind (wpAny_holding (wpAny_call_entry slot_list_sort ⟨_, hoL, rfl⟩ entry_list_sort (hN _ _ _ _ _ _ _ _ _ _ hoL hI (by lia) fun out ns' a1 a2 a3 => ⟨_, rfl, ?_⟩) (args_list_sort _)))
  have hns : ns' = norm S := norm_of (a2.nodup_iff.mpr hn) a3 fun k => a2.mem_iff.trans (hm k)
  have hq := hQ L out { s₁ with heap := sortedHeap H₁ L vs out } ⟨fun b o e => sortedHeap_keep (hk2 b o e).1 (hk2 b o e).2, ⟨k₁.same.os, k₁.same.gens⟩⟩ hfr (let ⟨n, e⟩ := sortedHeap_at (out := out) hoL; ⟨_, e, rfl, rfl, n, rfl⟩) (hns ▸ a1)
  exact wpAny_pure ⟨_, rfl, hq⟩
end

theorem ints_rd {X : Addr → Prop} {h : Heap} {vs : List Value} {ns : List Int} (r : IntsAre vs ns) : RdAll X h vs (ns.map .int) := by
  induction r with
  | nil => exact .nil
  | cons n t _ ih => exact .cons (.int n t) ih
theorem rd_ints {X : Addr → Prop} {h : Heap} {vs : List Value} {ns : List Int} (r : RdAll X h vs (ns.map .int)) : IntsAre vs ns := by
  induction ns generalizing vs with
  | nil => cases r; exact .nil
  | cons n ns ih =>
    cases r with
    | cons a r => cases a; exact .cons n _ (ih r)

section
variable {c : Cx} {k : Nat} {env : Env} {ρ : Vars} {μ : Mem}

/-- a call of a builtin with one argument of any kind -/
theorem callWith_one {f : Value} {e : Expr} {pos : Pos} {A : Around} {s : Shared} {Q : Value → Shared → Prop} {E : Value → Shared → Prop} (hst : notStar e = true)
    (hk : ∀ s' (Q' : Keeper → Shared → Prop), Q' .machine s' → wpAny (model c.prog c.w) A (keeperOf f) Q' E s')
    (h : wpAny (model c.prog c.w) A (eval e env) (fun v s' => wpAny (model c.prog c.w) A (call f [v]) Q E s') E s) : wpAny (model c.prog c.w) A (callWith pos f [] (backTo pos (starEach [e] env)) []) Q E s := by
  have hpl : (backTo pos (starEach [e] env)).any (·.1) = false := by rw [starEach_cons hst]; rfl
  have hev : wpAny (model c.prog c.w) A (spliced (backTo pos (starEach [e] env))) (fun vs s' => ∃ v, vs = [v] ∧ wpAny (model c.prog c.w) A (call f [v]) Q E s') E s :=
    args_cons (wpAny_mono h (fun v s' q => args_nil ⟨v, rfl, q⟩) fun _ _ x => x) (starEach_cons hst)
  unfold callWith
  have hargs : wpAny (model c.prog c.w) A (evalArgs f true (backTo pos (starEach [e] env)) []) (fun a s' => a.kw = [] ∧ ∃ v, a.pos = [v] ∧ wpAny (model c.prog c.w) A (call f [v]) Q E s') E s := by
    rw [starEach_cons hst] at hev ⊢
    exact evalArgs_plain (wpAny_mono hev (fun vs s' q => ⟨rfl, q⟩) fun _ _ e => e)
  refine wpAny_bind (wpAny_holding (wpAny_mono hargs (fun a s₁ h₁ => wpAny_bind (wpAny_standAt ?_)) fun _ _ x => x))
  obtain ⟨pos', kw⟩ := a
  obtain ⟨rfl, v, rfl, hc⟩ := h₁
  simp only [hpl, List.any_nil, Bool.or_false, List.nil_append]
  refine wpAny_bind (hk s₁ _ ?_)
  exact wpAny_bind (wpAny_mono hc (fun r s₂ hr => wpAny_bind (wpAny_holding (wpAny_point (wpAny_pure hr)))) fun _ _ x => x)

/-- sorted(set(e)) -/
theorem evF_sortedSet {N : Nat} (hN : SortLt N) {x y : Str} {px py pos pos' : Pos} {e : Expr} {S : List Int} (hg : c.mg x = none) (hb : bootBuiltins x = some (.builtin "sorted")) (hg' : c.mg y = none) (hb' : bootBuiltins y = some (.type "set"))
    (he : Ev c k env ρ μ e (.list (S.map .int))) (hlen : S.length < 1000) (hS : (norm S).length < N)
    (hs : notStar e = true := by rfl) (hn : x ≠ "__name__" := by decide) (hn' : y ≠ "__name__" := by decide)
    (hx : env.kindOf x = some .globalImplicit := by rfl) (hx' : env.kindOf y = some .globalImplicit := by rfl) (hd : (x == ("__debug__" : Str)) = false := by decide) (hd' : (y == ("__debug__" : Str)) = false := by decide) :
    EvF c k env ρ μ (.Call (.Name x px) [.Call (.Name y py) [e] [] pos'] [] pos) ((norm S).map .int) := by
  intro X A s E hA R
  refine Call_ (name_builtin R hx hg hb hn ?_ hd)
  refine callWith_one rfl (fun s' Q' hq => wpAny_pure hq) ?_
  refine Call_ (name_builtin R hx' hg' hb' hn' ?_ hd')
  refine callWith_plain R hA (.cons he .nil hs) (fun s' k' => ⟨.machine, .inr rfl, fun Q' hq => wpAny_pure hq⟩) (by intro h; cases h) fun vs s₁ k₁ r₁ => ?_
  cases r₁ with
  | cons r1 r2 =>
    cases r2
    cases r1 with
    | list hX ho hc hd hr =>
      rename_i a o vs n
      have hi := rd_ints hr
      have hl : vs.size = S.length := by have := hi.length; simpa using this
      refine call_setI hA.handled ⟨o, ho, hc, n, hd⟩ hi (by rw [hl]; unfold scanBound; lia) fun h' tk a' hnew hSI hk => ?_
      refine sorted_setI hN hA.handled hSI hS fun b vs' s₂ k₂ hb hpl hints => ?_
      have kk : Kp s₁ { s₁ with heap := h', toks := tk } := Kp.heap s₁ h' tk hk
      refine ⟨(k₁.trans kk).trans k₂, b, vs', rfl, ?_, hpl, ints_rd hints⟩
      refine none_of fun o e' => ?_
      have := (k₁.trans kk).sub b o e'; first | exact (no1 (hb) this).elim | exact (no1 this (hb)).elim | (rw [hb] at this; cases this)
end
end Mine
end

/-! # M10 -/
section
set_option autoImplicit false
set_option linter.unusedVariables false
namespace Mine
open PySem PySem.Calls PyProof.Rows

section
variable {c : Cx} {k : Nat} {env : Env} {ρ : Vars} {μ : Mem} {pos : Pos}

/-! ## an own list lent out -/
theorem Rc.lend {X : Addr → Prop} {s : Shared} {x : Str} {a : Addr} {ds : List D} (R : Rc c X env ρ μ s) (hx : ρ.lookup x = some (.raw (.ref a))) (hm : (a, ds) ∈ μ) :
    Rc c (fun b => X b ∧ b ≠ a) env ((x, .list ds) :: ρ) (dropM μ a) s := by
  obtain ⟨hXa, vs, ⟨o, e, hc, hdt, n, hd⟩, hr⟩ := R.mem a ds hm
  refine ⟨R.ok, R.base, fun b h => R.live b h.1, fun n' b h => ?_, R.apart, fun y d h => ?_, fun b es h => ?_⟩
  · obtain ⟨h1, h2, ov, h3⟩ := R.cel n' b h
    exact ⟨⟨h1, fun q => IsList_ne_Cell ⟨o, e, hc, n, hd⟩ (q ▸ h3) rfl⟩, h2, ov, h3⟩
  · rw [List.lookup_cons] at h
    cases hb : y == x with
    | true =>
      rw [hb] at h
      cases h
      obtain ⟨v, hv, r⟩ := R.vars x _ hx
      cases r
      rw [beq_iff_eq.mp hb]
      exact ⟨_, hv, .list (fun q => q.2 rfl) e hc hd (hr.weak fun _ q => q.1)⟩
    | false =>
      rw [hb] at h
      obtain ⟨v, hv, r⟩ := R.vars y d h
      exact ⟨v, hv, r.weak fun _ q => q.1⟩
  · obtain ⟨h1, h2⟩ := mem_dropM.mp h
    obtain ⟨q1, us, q2, q3⟩ := R.mem b es h1
    exact ⟨⟨q1, h2⟩, us, q2, q3.weak fun _ q => q.1⟩

theorem ev_lend {x : Str} {a : Addr} {ds : List D} {e : Expr} {d : D} (hx : ρ.lookup x = some (.raw (.ref a))) (hm : (a, ds) ∈ μ) (he : Ev c k env ((x, .list ds) :: ρ) (dropM μ a) e d) (hs : scalar d = true := by rfl) : Ev c k env ρ μ e d := fun X A s hA R E =>
  wpAny_mono (he _ A s hA (R.lend hx hm) E) (fun _ _ q => ⟨q.1, q.2.scalar hs⟩) fun _ _ e => e
/-! ## more expressions -/
theorem ev_not {e : Expr} {b : Bool} (ha : Ev c k env ρ μ e (.bool b)) : Ev c k env ρ μ (.UnaryOp .Not e pos) (.bool (!b)) := by
  intro X A s hA R E
  show wpAny _ _ (do let v ← eval e env; standAt pos; holding [v] (unaryOp .Not v)) _ _ s
  refine wpAny_bind (gives_bind (ha X A s hA R) fun v s₁ k₁ r₁ => wpAny_bind (wpAny_standAt (wpAny_holding ?_)))
  cases r₁
  exact not_of (wpAny_truthy_bool ⟨k₁, .bool _⟩)
theorem ev_builtin {x : Str} {px : Pos} {v : Value} (hg : c.mg x = none) (hb : bootBuiltins x = some v) (hn : x ≠ "__name__" := by decide) (hx : env.kindOf x = some .globalImplicit := by rfl) (hd : (x == ("__debug__" : Str)) = false := by decide) : Ev c k env ρ μ (.Name x px) (.raw v) := by
  intro X A s hA R E
  exact name_builtin R hx hg hb hn ⟨Kp.refl s, .raw v⟩ hd

theorem ev_isList {x y : Str} {px py : Pos} {e : Expr} {ds : List D} (hg : c.mg x = none) (hb : bootBuiltins x = some (.builtin "isinstance")) (hg' : c.mg y = none) (hb' : bootBuiltins y = some (.type "list")) (he : Ev c k env ρ μ e (.list ds)) (hs : notStar e = true := by rfl)
    (hn : x ≠ "__name__" := by decide) (hn' : y ≠ "__name__" := by decide) (hx : env.kindOf x = some .globalImplicit := by rfl) (hx' : env.kindOf y = some .globalImplicit := by rfl) (hd : (x == ("__debug__" : Str)) = false := by decide) (hd' : (y == ("__debug__" : Str)) = false := by decide) :
    Ev c k env ρ μ (.Call (.Name x px) [e, .Name y py] [] pos) (.bool true) :=
  ev_callB hg hb (.cons he (.cons (ev_builtin hg' hb' hn' hx' hd') .nil rfl) hs) (fun X A s vs hA _ r E => by
    cases r with
    | cons r1 r2 =>
      cases r2 with
      | cons r2 r3 =>
        cases r3
        cases r2
        cases r1 with
        | list hX ho hc hd hr => exact call_isinstance (isinstance_true (Tx := "list") PySem.F.isi_meta_list (by rw [isSubtype_type]; kernel_rfl)) ⟨⟨_, ho, hc⟩, Kp.refl s, .bool _⟩) hn (by intro h; cases h) hx hd
theorem ev_isInt {x y : Str} {px py : Pos} {e : Expr} {n : Int} (hg : c.mg x = none) (hb : bootBuiltins x = some (.builtin "isinstance")) (hg' : c.mg y = none) (hb' : bootBuiltins y = some (.type "int")) (he : Ev c k env ρ μ e (.int n)) (hs : notStar e = true := by rfl)
    (hn : x ≠ "__name__" := by decide) (hn' : y ≠ "__name__" := by decide) (hx : env.kindOf x = some .globalImplicit := by rfl) (hx' : env.kindOf y = some .globalImplicit := by rfl) (hd : (x == ("__debug__" : Str)) = false := by decide) (hd' : (y == ("__debug__" : Str)) = false := by decide) :
    Ev c k env ρ μ (.Call (.Name x px) [e, .Name y py] [] pos) (.bool true) :=
  ev_callB hg hb (.cons he (.cons (ev_builtin hg' hb' hn' hx' hd') .nil rfl) hs) (fun X A s vs hA _ r E => by
    cases r with
    | cons r1 r2 =>
      cases r2 with
      | cons r2 r3 =>
        cases r3
        cases r2
        cases r1
        exact IsiPair.int_int ⟨Kp.refl s, .bool _⟩) hn (by intro h; cases h) hx hd
theorem ev_isBool {x y : Str} {px py : Pos} {e : Expr} {n : Int} (hg : c.mg x = none) (hb : bootBuiltins x = some (.builtin "isinstance")) (hg' : c.mg y = none) (hb' : bootBuiltins y = some (.type "bool")) (he : Ev c k env ρ μ e (.int n)) (hs : notStar e = true := by rfl)
    (hn : x ≠ "__name__" := by decide) (hn' : y ≠ "__name__" := by decide) (hx : env.kindOf x = some .globalImplicit := by rfl) (hx' : env.kindOf y = some .globalImplicit := by rfl) (hd : (x == ("__debug__" : Str)) = false := by decide) (hd' : (y == ("__debug__" : Str)) = false := by decide) :
    Ev c k env ρ μ (.Call (.Name x px) [e, .Name y py] [] pos) (.bool false) :=
  ev_callB hg hb (.cons he (.cons (ev_builtin hg' hb' hn' hx' hd') .nil rfl) hs) (fun X A s vs hA _ r E => by
    cases r with
    | cons r1 r2 =>
      cases r2 with
      | cons r2 r3 =>
        cases r3
        cases r2
        cases r1
        exact IsiPair.int_bool ⟨Kp.tok s _, .bool _⟩) hn (by intro h; cases h) hx hd

/-- list(e), a list of its own -/
theorem evF_listOf {x : Str} {px : Pos} {e : Expr} {ds : List D} (hg : c.mg x = none) (hb : bootBuiltins x = some (.type "list")) (he : Ev c k env ρ μ e (.list ds)) (hlen : ds.length ≤ 16777216) (hsc : ∀ d ∈ ds, scalar d = true) (hs : notStar e = true := by rfl) (hn : x ≠ "__name__" := by decide)
    (hx : env.kindOf x = some .globalImplicit := by rfl) (hd : (x == ("__debug__" : Str)) = false := by decide) : EvF c k env ρ μ (.Call (.Name x px) [e] [] pos) ds := by
  intro X A s E hA R
  refine Call_ (name_builtin R hx hg hb hn ?_ hd)
  refine callWith_plain R hA (.cons he .nil hs) (fun s' k' => ⟨.machine, .inr rfl, fun Q' hq => wpAny_pure hq⟩) (by intro h; cases h) fun vs s₁ k₁ r₁ => ?_
  cases r₁ with
  | cons r1 r2 =>
    cases r2
    cases r1 with
    | list hX ho hc hd hr =>
      rename_i a o vs n
      have hlv : vs.size = ds.length := by have := hr.length; simpa using this
      refine call_list_seq (hsz := by rw [hlv, sizeLine_eq]; exact hlen) a (.inl rfl) ho hc hd fun h' c' hk hD => ⟨k₁.trans (Kp.heap s₁ h' s₁.toks hk), _, vs, rfl, ?_, ⟨_, hD, rfl, rfl, _, rfl⟩, hr.scalar hsc⟩
      refine none_of fun o e' => ?_
      exact absurd (Heap.lt_size (k₁.sub _ o e')) (Nat.lt_irrefl _)

/-! ## calls that give a list of their own -/
def FnF (c : Cx) (k : Nat) (f : Addr) (ds : List D) (rs : List D) : Prop :=
  ∀ X A s vs E, Room k A → Sub c.base s.heap → (∀ a, X a → ∃ o, s.heap.get? a = some o) → RdAll X s.heap vs ds →
    wpAny (model c.prog c.w) A (call (.ref f) vs) (fun v s' => Kp s s' ∧ ∃ a ws, v = .ref a ∧ s.heap.get? a = none ∧ PL s'.heap a ws ∧ RdAll (fun b => X b ∨ b = a) s'.heap ws.toList rs) E s

theorem evF_call {x : Str} {px pos : Pos} {f : Addr} {st : Stmt} {args : List Expr} {ds rs : List D} (hg : c.mg x = some (.ref f)) (hf : FnAt c f st) (ha : EvAll c k env ρ μ args ds) (hF : FnF c k f ds rs) (hne : args ≠ [] := by intro h; cases h)
    (hx : env.kindOf x = some .globalImplicit := by rfl) (hd : (x == ("__debug__" : Str)) = false := by decide) : EvF c k env ρ μ (.Call (.Name x px) args [] pos) rs := by
  intro X A s E hA R
  refine Call_ (name_global R hx hg ?_ hd)
  obtain ⟨o, nm, qn, doc, pm, an, cdv, ct, ho, hd', hcd⟩ := hf
  refine callWith_plain R hA ha (fun s' k' => ⟨.frame, .inl rfl, fun Q' hq => ?_⟩) hne fun vs s₁ k₁ r₁ => ?_
  · unfold keeperOf
    refine wpAny_bind (wpAny_load (k'.sub _ _ (R.base _ _ ho)) ?_)
    rw [hd']; exact wpAny_pure hq
  · have R₁ := R.keep k₁.sub
    refine wpAny_mono (hF X A s₁ vs E hA R₁.base R₁.live r₁) (fun v s₂ q => ?_) fun _ _ e => e
    obtain ⟨k', a, ws, q1, q2, q3, q4⟩ := q
    refine ⟨k₁.trans k', a, ws, q1, ?_, q3, q4⟩
    refine none_of fun o e' => ?_
    have := k₁.sub a o e'; first | exact (no1 (q2) this).elim | exact (no1 this (q2)).elim | (rw [q2] at this; cases this)
end
end Mine
end

/-! # M11 -/
section
set_option autoImplicit false
set_option linter.unusedVariables false
namespace Mine
open PySem PySem.Calls PyProof.Rows

theorem fnF_of {c : Cx} {k : Nat} {f : Addr} {st : Stmt} {ds rs : List D} (hf : FnAt c f st) (hb : Binds st ds.length)
    (h : ∀ qn cdv L, Ex c k (fenv st qn cdv L f) ((namesOf st).zip ds).reverse [] (bodyOf st) (fun o _ μ => ∃ a, o = .ret (.raw (.ref a)) ∧ (a, rs) ∈ μ)) (ok : fnOk st = true := by rfl) : FnF c (k + 1) f ds rs := by
  intro X A s vs E hA hbase hlive hvs
  refine wpAny_call (fn_enter hf hb ok hA hbase hlive hvs fun qn cdv L s₁ S₁ k₁ newM hA' => ?_)
  refine wpAny_mono (h qn cdv L X _ s₁ _ hA' S₁) (fun fl s₂ p => ?_) fun _ _ e => e
  obtain ⟨o', ρ', μ', a, S₂, g, q⟩ := p
  obtain ⟨b, rfl, hm⟩ := q
  cases fl <;> first | exact a.elim | skip
  cases a
  obtain ⟨ws, hl, hr⟩ := S₂.mem b rs hm
  refine ⟨g.kp_of k₁ newM, b, ws, rfl, ?_, hl, hr.weak fun x hx => ?_⟩
  · rcases g.grow b rs hm with ⟨_, q⟩ | q
    · cases q
    · refine none_of fun o e => ?_
      first | exact (no1 (k₁.sub b o e) q).elim | exact (no1 q (k₁.sub b o e)).elim | (rw [k₁.sub b o e] at q; cases q)
  · rcases hx with q | q
    · exact .inl q
    · exact .inr (.inr (.inr ⟨rs, q ▸ hm⟩))
end Mine
end

/-! # M12 -/
section
set_option autoImplicit false
set_option linter.unusedVariables false
namespace Mine
open PySem PySem.Calls PyProof.Rows

/-- at least these names -/
def Has (ρ₀ ρ : Vars) : Prop := ∀ x d, ρ₀.lookup x = some d → ρ.lookup x = some d
theorem Has.refl (ρ : Vars) : Has ρ ρ := fun _ _ e => e
theorem Has.cons {ρ₀ ρ : Vars} (h : Has ρ₀ ρ) (x : Str) (d : D) : Has ((x, d) :: ρ₀) ((x, d) :: ρ) := fun y e q => by
  rw [List.lookup_cons] at q ⊢
  cases hb : y == x with
  | true => rw [hb] at q; exact q
  | false => rw [hb] at q; exact h y e q
/-- these names, each by a look -/
def hasAll (ρ₀ ρ : Vars) : Prop := ∀ p ∈ ρ₀, ρ.lookup p.1 = some p.2
theorem has_of {ρ₀ ρ : Vars} (h : hasAll ρ₀ ρ) : Has ρ₀ ρ := fun x d e => h (x, d) (mem_of_lookup e)
theorem hasAll_nil {ρ : Vars} : hasAll [] ρ := fun _ h => nomatch h
theorem hasAll_cons {ρ₀ ρ : Vars} {x : Str} {d : D} (h : ρ.lookup x = some d) (r : hasAll ρ₀ ρ) : hasAll ((x, d) :: ρ₀) ρ := fun p hp => by
  rcases List.mem_cons.mp hp with q | q
  · subst q; exact h
  · exact r p q

section
variable {c : Cx} {k : Nat} {env : Env} {ρ : Vars} {μ : Mem} {Q : Out → Vars → Mem → Prop}

theorem ex_has {ρ₀ : Vars} {ss : List Stmt} (h : Ex c k env ρ₀ μ ss Q) (hw : Has ρ₀ ρ) : Ex c k env ρ μ ss Q := ex_weak h hw

/-- the turns of a for, by what they keep -/
theorem turns_st {α σ : Type} {f : α → D} {x : Str} {body : List Stmt} (V : σ → Vars) (U : σ → Mem) (J : List α → σ → Prop)
    (step : ∀ a rest t, J (a :: rest) t → Ex c k env ((x, f a) :: V t) (U t) body (fun o ρ' μ' => match o with
      | .next | .cont => ∃ t', J rest t' ∧ Has (V t') ρ' ∧ μ' = U t'
      | .brk => Q .next ρ' μ'
      | .ret d => Q (.ret d) ρ' μ'))
    (fin : ∀ t ρ', J [] t → Has (V t) ρ' → Q .next ρ' (U t)) : ∀ (l : List α) (t : σ) (ρ : Vars), J l t → Has (V t) ρ → Turns c k env x body Q (l.map f) ρ (U t)
  | [], t, ρ, hJ, hρ => fin t ρ hJ hρ
  | a :: l, t, ρ, hJ, hρ => by
    refine ex_mono (ex_has (step a l t hJ) (hρ.cons x (f a))) fun o ρ' μ' q => ?_
    cases o with
    | next => obtain ⟨t', q1, q2, q3⟩ := q; subst q3; exact turns_st V U J step fin l t' ρ' q1 q2
    | cont => obtain ⟨t', q1, q2, q3⟩ := q; subst q3; exact turns_st V U J step fin l t' ρ' q1 q2
    | brk => exact q
    | ret d => exact q

/-! ## comprehensions over what is told apart -/
open Classical in
noncomputable def liftP {α : Type} (g : α → D) (p : α → Bool) (d : D) : Bool := decide (∃ a, g a = d ∧ p a = true)
open Classical in
noncomputable def liftF {α β : Type} (g : α → D) (h : β → D) (f : α → β) (d : D) : D := if e : ∃ a, g a = d then h (f e.choose) else .none
theorem liftP_eq {α : Type} {g : α → D} (hg : ∀ a b, g a = g b → a = b) (p : α → Bool) (a : α) : liftP g p (g a) = p a := by
  unfold liftP
  cases hp : p a with
  | true => simp only [decide_eq_true_eq]; exact ⟨a, rfl, hp⟩
  | false => simp only [decide_eq_false_iff_not]; rintro ⟨b, e, hb⟩; rw [hg _ _ e, hp] at hb; cases hb
theorem liftF_eq {α β : Type} {g : α → D} (hg : ∀ a b, g a = g b → a = b) (h : β → D) (f : α → β) (a : α) : liftF g h f (g a) = h (f a) := by
  unfold liftF
  have e : ∃ b, g b = g a := ⟨a, rfl⟩
  rw [dif_pos e, hg _ _ e.choose_spec]
theorem lift_list {α β : Type} {g : α → D} (hg : ∀ a b, g a = g b → a = b) (h : β → D) (f : α → β) (p : α → Bool) : ∀ l : List α, ((l.map g).filter (liftP g p)).map (liftF g h f) = ((l.filter p).map f).map h
  | [] => rfl
  | a :: l => by
    rw [List.map_cons, List.filter_cons, List.filter_cons, liftP_eq hg]
    split
    · rw [List.map_cons, List.map_cons, List.map_cons, liftF_eq hg, lift_list hg h f p l]
    · exact lift_list hg h f p l

theorem ev_compM {α β : Type} {g : α → D} {h : β → D} {l : List α} {p : α → Bool} {f : α → β} {elt iter : Expr} {ifs : List Expr} {scope : Scope} {x : Str} {px pos : Pos} (hg : ∀ a b, g a = g b → a = b) (src : Src c k env ρ μ iter (l.map g))
    (tests : ∀ C cl a, a ∈ l → Tests c k (cenvOf scope env C cl) ((x, g a) :: capt scope ρ) ifs (p a))
    (elts : ∀ C cl a, a ∈ l → p a = true → Ev c k (cenvOf scope env C cl) ((x, g a) :: capt scope ρ) [] elt (h (f a))) (hlen : l.length ≤ 16777216)
    (ok : compOk scope env x = true := by rfl) (hs : ∀ x, foldedSetIterable iter env x = pure x := by intro _; rfl) : Ev c k env ρ μ (.ListComp elt [⟨.Name x px, iter, ifs, 0⟩] scope pos) (.list (((l.filter p).map f).map h)) := by
  rw [← lift_list hg h f p l]
  refine ev_comp src (fun C cl d hd => ?_) (fun C cl d hd hp => ?_) (by simpa using hlen) ok hs
  · obtain ⟨a, ha, rfl⟩ := List.mem_map.mp hd
    rw [liftP_eq hg]; exact tests C cl a ha
  · obtain ⟨a, ha, rfl⟩ := List.mem_map.mp hd
    rw [liftP_eq hg] at hp
    rw [liftF_eq hg]; exact elts C cl a ha hp
theorem ex_assign_compM {α β : Type} {g : α → D} {h : β → D} {l : List α} {p : α → Bool} {f : α → β} {elt iter : Expr} {ifs : List Expr} {scope : Scope} {x y : Str} {px py pos spos : Pos} (hg : ∀ a b, g a = g b → a = b) (src : Src c k env ρ μ iter (l.map g))
    (tests : ∀ C cl a, a ∈ l → Tests c k (cenvOf scope env C cl) ((x, g a) :: capt scope ρ) ifs (p a))
    (elts : ∀ C cl a, a ∈ l → p a = true → Ev c k (cenvOf scope env C cl) ((x, g a) :: capt scope ρ) [] elt (h (f a))) (hlen : l.length ≤ 16777216)
    (hq : Q .next ((y, .list (((l.filter p).map f).map h)) :: ρ) μ)
    (hsw : swapsWith (.ListComp elt [⟨.Name x px, iter, ifs, 0⟩] scope pos) (some (.Name y py)) spos.line env = pure true := by rfl) (hy : stor env y = true := by rfl)
    (ok : compOk scope env x = true := by rfl) (hs : ∀ x, foldedSetIterable iter env x = pure x := by intro _; rfl) :
    Ex1 c k env ρ μ (.Assign [.Name y py] (.ListComp elt [⟨.Name x px, iter, ifs, 0⟩] scope pos) spos) Q := by
  rw [← lift_list hg h f p l] at hq
  refine ex_assign_comp src (fun C cl d hd => ?_) (fun C cl d hd hp => ?_) (by simpa using hlen) hq hsw hy ok hs
  · obtain ⟨a, ha, rfl⟩ := List.mem_map.mp hd
    rw [liftP_eq hg]; exact tests C cl a ha
  · obtain ⟨a, ha, rfl⟩ := List.mem_map.mp hd
    rw [liftP_eq hg] at hp
    rw [liftF_eq hg]; exact elts C cl a ha hp
theorem inj_int : ∀ a b : Int, D.int a = D.int b → a = b := fun _ _ h => D.int.inj h
theorem inj_list {α : Type} {g : α → D} (hg : ∀ a b, g a = g b → a = b) : ∀ a b : List α, D.list (a.map g) = D.list (b.map g) → a = b := fun a b h => (List.map_inj_right (fun x y => hg x y)).mp (D.list.inj h)
theorem inj_I : ∀ a b : List Int, I a = I b → a = b := inj_list inj_int
end
end Mine
end

/-! # M14 -/
section
set_option autoImplicit false
set_option linter.unusedVariables false
namespace Mine
open PySem PySem.Calls PyProof.Rows

section
variable {c : Cx} {k : Nat} {env : Env} {ρ : Vars} {μ : Mem} {pos : Pos}

/-- a global number -/
theorem ev_globalInt {x : Str} {px : Pos} {n : Int} {t : Tok} (hg : c.mg x = some (.int n t)) (hx : env.kindOf x = some .globalImplicit := by rfl) (hd : (x == ("__debug__" : Str)) = false := by decide) : Ev c k env ρ μ (.Name x px) (.int n) := fun X A s hA R E =>
  name_global R hx hg ⟨Kp.refl s, .int _ _⟩ hd

theorem ev_max {x : Str} {px : Pos} {e f : Expr} {a b : Int} (hg : c.mg x = none) (hb : bootBuiltins x = some (.builtin "max")) (h1 : Ev c k env ρ μ e (.int a)) (h2 : Ev c k env ρ μ f (.int b)) (hs1 : notStar e = true := by rfl) (hs2 : notStar f = true := by rfl) (hn : x ≠ "__name__" := by decide)
    (hx : env.kindOf x = some .globalImplicit := by rfl) (hd : (x == ("__debug__" : Str)) = false := by decide) : Ev c k env ρ μ (.Call (.Name x px) [e, f] [] pos) (.int (max a b)) :=
  ev_callB hg hb (.cons h1 (.cons h2 .nil hs2) hs1) (fun X A s vs hA _ r E => by
    cases r with
    | cons r1 r2 =>
      cases r2 with
      | cons r2 r3 =>
        cases r3
        cases r2
        cases r1
        refine max_two_ints hA.handled fun h' tk k => ⟨Kp.heap s h' tk k, ?_⟩
        split
        · rw [Int.max_eq_right (by omega)]; exact .int _ _
        · rw [Int.max_eq_left (by omega)]; exact .int _ _) hn (by intro h; cases h) hx hd

/-! ## slices -/
/-- a change at a place that is kept apart -/
theorem St.butX {X₀ : Addr → Prop} {s s' : Shared} {b : Addr} (S : St c X₀ env ρ μ s) (hX : X₀ b) (hb : c.base.get? b = none) (hm : ¬ Mut env μ b) (hs : Heap.SameBut b s.heap s'.heap) (ha : ∃ o, s'.heap.get? b = some o) : St c X₀ env ρ μ s' := by
  have hx : XOf X₀ env μ b := .inl hX
  have kM : ∀ a o, Mut env μ a → s.heap.get? a = some o → s'.heap.get? a = some o := fun a o m e => hs.extBut a o (fun q => hm (q ▸ m)) e
  refine { S with base := fun a o e => hs.extBut a o (fun q => ?_) (S.base a o e), live := fun a q => ?_, ns := ?_, cel := fun n a h => ?_, vars := fun x d e => ?_, mem := fun a ds m => ?_ }
  · rw [q, hb] at e; cases e
  · by_cases z : a = b
    · exact z ▸ ha
    · exact (S.live a q).imp fun o e => hs.extBut a o z e
  · obtain ⟨m, o, es, ep, e, r⟩ := S.ns
    exact ⟨m, o, es, ep, kM _ _ (.inl rfl) e, r⟩
  · obtain ⟨ov, o, e, r⟩ := S.cel n a h
    exact ⟨ov, o, kM _ _ (.inr (.inl ⟨n, h⟩)) e, r⟩
  · obtain ⟨v, y, r⟩ := S.vars x d e
    refine ⟨v, ?_, r.but hx hs⟩
    rcases y with ⟨y, m, ⟨o, es, ep, e', r⟩, q⟩ | ⟨y, c', q, o, e', r⟩
    · exact .inl ⟨y, m, ⟨o, es, ep, kM _ _ (.inl rfl) e', r⟩, q⟩
    · exact .inr ⟨y, c', q, o, kM _ _ (.inr (.inl ⟨x, q⟩)) e', r⟩
  · obtain ⟨vs, ⟨o, e, y⟩, r⟩ := S.mem a ds m
    exact ⟨vs, ⟨o, kM _ _ (.inr (.inr ⟨ds, m⟩)) e, y⟩, r.but hx hs⟩

end
end Mine
end

/-! # MG -/
section
set_option autoImplicit false
set_option linter.unusedVariables false
namespace Mine
open PySem PySem.Calls PyProof.Rows

theorem boot_len : bootBuiltins "len" = some (.builtin "len") := by decide +kernel
theorem boot_list : bootBuiltins "list" = some (.type "list") := by decide +kernel
theorem boot_range : bootBuiltins "range" = some (.type "range") := by decide +kernel
theorem boot_set : bootBuiltins "set" = some (.type "set") := by decide +kernel
theorem boot_sorted : bootBuiltins "sorted" = some (.builtin "sorted") := by decide +kernel
theorem boot_max : bootBuiltins "max" = some (.builtin "max") := by decide +kernel
theorem Fn.up {c : Cx} {j k : Nat} {f : Addr} {ds : List D} {r : D} (h : Fn c j f ds r) (hjk : j ≤ k) : Fn c k f ds r := fun X A s vs hA => h X A s vs (hA.le hjk)
theorem fmod_lt {a b : Int} (h : 0 < b) : a.fmod b < b := Int.fmod_lt_of_pos a h
theorem fmod_nn {a b : Int} (h : 0 < b) : 0 ≤ a.fmod b := Int.fmod_nonneg_of_pos a h
theorem bits_le {a : Int} (h : a.natAbs < 2 ^ 32) : Builtin.Int.intBits a ≤ 64 := by
  unfold Builtin.Int.intBits
  split
  · omega
  · rename_i hz
    have h0 : a.natAbs ≠ 0 := by simp at hz; omega
    have := (Nat.log2_lt h0).mpr h
    omega
theorem mul_left {a b : Int} (h : a.natAbs < 2 ^ 32) : IntMulOk a b := IntMulOk.of_left (bits_le h)
theorem mul_right {a b : Int} (h : b.natAbs < 2 ^ 32) : IntMulOk a b := IntMulOk.of_right (bits_le h)
theorem upto_len (n : Int) : (upto n).length = n.toNat := by simp [upto]
theorem len_cons {α : Type} {n : Nat} {l : List α} (h : l.length = n + 1) : ∃ a m, l = a :: m ∧ m.length = n := by
  cases l with
  | nil => cases h
  | cons a m => exact ⟨a, m, rfl, Nat.succ.inj h⟩
theorem len_nil {α : Type} {l : List α} (h : l.length = 0) : l = [] := List.length_eq_zero_iff.mp h
section
variable {st : Stmt}
theorem binds1 (h : ∀ nm qn doc pm an cdv ct a, bindArgs (fnD st nm qn doc pm an cdv ct) ⟨[a], []⟩ = pure ((namesOf st).zip [a])) : Binds st 1 := fun nm qn doc pm an cdv ct vs h0 => by
  obtain ⟨a, m0, rfl, h1⟩ := len_cons h0
  cases len_nil h1
  exact h nm qn doc pm an cdv ct a
theorem binds2 (h : ∀ nm qn doc pm an cdv ct a b, bindArgs (fnD st nm qn doc pm an cdv ct) ⟨[a, b], []⟩ = pure ((namesOf st).zip [a, b])) : Binds st 2 := fun nm qn doc pm an cdv ct vs h0 => by
  obtain ⟨a, m0, rfl, h1⟩ := len_cons h0
  obtain ⟨b, m1, rfl, h2⟩ := len_cons h1
  cases len_nil h2
  exact h nm qn doc pm an cdv ct a b
theorem binds3 (h : ∀ nm qn doc pm an cdv ct a b d, bindArgs (fnD st nm qn doc pm an cdv ct) ⟨[a, b, d], []⟩ = pure ((namesOf st).zip [a, b, d])) : Binds st 3 := fun nm qn doc pm an cdv ct vs h0 => by
  obtain ⟨a, m0, rfl, h1⟩ := len_cons h0
  obtain ⟨b, m1, rfl, h2⟩ := len_cons h1
  obtain ⟨d, m2, rfl, h3⟩ := len_cons h2
  cases len_nil h3
  exact h nm qn doc pm an cdv ct a b d
end
/-- an if whose ways meet -/
theorem ex_if_join {c : Cx} {k : Nat} {env : Env} {ρ : Vars} {μ : Mem} {Q : Out → Vars → Mem → Prop} {test : Expr} {body orelse : List Stmt} {pos : Pos} {b : Bool} (ρJ : Vars) (μJ : Mem) (ht : Tr c k env ρ μ test b)
    (h1 : b = true → Ex c k env ρ μ body (fun o ρ' μ' => match o with | .next => Has ρJ ρ' ∧ μ' = μJ | o => Q o ρ' μ')) (h2 : b = false → Ex c k env ρ μ orelse (fun o ρ' μ' => match o with | .next => Has ρJ ρ' ∧ μ' = μJ | o => Q o ρ' μ'))
    (hj : ∀ ρ', Has ρJ ρ' → Q .next ρ' μJ) : Ex1 c k env ρ μ (.If test body orelse pos) Q := by
  have conv : ∀ o ρ' μ', (match o with | Out.next => Has ρJ ρ' ∧ μ' = μJ | o => Q o ρ' μ') → Q o ρ' μ' := fun o ρ' μ' q => by
    cases o with
    | next => obtain ⟨q1, rfl⟩ := q; exact hj ρ' q1
    | brk => exact q
    | cont => exact q
    | ret d => exact q
  exact ex_if ht (fun hb => ex_mono (h1 hb) conv) (fun hb => ex_mono (h2 hb) conv)
end Mine
end

/-! # M13 -/
section
set_option autoImplicit false
set_option linter.unusedVariables false
namespace Mine
open PySem PySem.Calls PyProof.Rows PySem.W

/-! # instances -/
theorem ns_look {h : Heap} {da : Addr} {m : Str → Option Value} (hn : h.Ns da m) : ∃ od, h.get? da = some od ∧ ∀ x, lookIn x od = some (m x) := by
  obtain ⟨o, es, ep, e, d, k, f⟩ := hn
  refine ⟨o, e, fun x => ?_⟩
  have hr : es.toList.any (·.refKey) = false := by
    rw [List.any_eq_false]
    intro b hb
    obtain ⟨n, t, q⟩ := k b (Array.mem_toList_iff.mp hb)
    simp [DictEntry.refKey, q]
  unfold lookIn
  rw [d]
  dsimp only
  rw [← f x]
  unfold nsFind findBy
  rw [← Array.find?_toList]
  cases q : es.toList.find? (fun e => e.key.isStr x) with
  | some en => rfl
  | none => simp only [hr]; rfl

theorem zlook {X : Addr → Prop} {h : Heap} {ns : List Str} {vs : List Value} {ds : List D} (r : RdAll X h vs ds) {x : Str} {d : D} (e : (ns.zip ds).lookup x = some d) : ∃ v, (ns.zip vs).lookup x = some v ∧ Rd X h v d := by
  induction ns generalizing vs ds with
  | nil => cases e
  | cons n ns ih =>
    cases r with
    | nil => cases e
    | cons a r =>
      rw [List.zip_cons_cons, List.lookup_cons] at e ⊢
      cases q : x == n with
      | true => rw [q] at e; cases e; exact ⟨_, rfl, a⟩
      | false => rw [q] at e; exact ih r e
theorem zlook_none {X : Addr → Prop} {h : Heap} {ns : List Str} {vs : List Value} {ds : List D} (r : RdAll X h vs ds) {x : Str} (e : (ns.zip ds).lookup x = none) : (ns.zip vs).lookup x = none := by
  induction ns generalizing vs ds with
  | nil => rfl
  | cons n ns ih =>
    cases r with
    | nil => rfl
    | cons a r =>
      rw [List.zip_cons_cons, List.lookup_cons] at e ⊢
      cases q : x == n with
      | true => first | exact (no1 (q) e).elim | exact (no1 e (q)).elim | (rw [q] at e; cases e)
      | false => rw [q] at e; exact ih r e

/-- a class whose instances are plain -/
structure ClsK (c : Cx) (K : Frag) (C : Addr) : Prop where
  kx : K.In c.base
  ga : findIn K (.ref C) "__getattribute__" = some (some (.builtin "object.__getattribute__"))
  gt : findIn K (.ref C) "__getattr__" = some none
  dict : (clsIn K C).any (·.hasDict) = true

theorem inst_at {X : Addr → Prop} {h : Heap} {v : Value} {C : Addr} {ns : List Str} {ds : List D} (r : Rd X h v (.inst C ns ds)) :
    ∃ a ox od vs, v = .ref a ∧ PySem.W.InstAt h a ox C (some od) ∧ (∀ x, lookIn x od = some ((ns.zip vs).lookup x)) ∧ RdAll X h vs ds := by
  cases r with
  | inst h1 h2 h3 h4 h5 h6 h7 h8 h9 =>
    obtain ⟨od, e, hl⟩ := ns_look h7
    exact ⟨_, _, od, _, rfl, ⟨h2, h3, by unfold notCls; rw [h4], by rw [h5]; exact e⟩, hl, h9⟩
def handD : D → Bool
  | .raw _ => false
  | _ => true
theorem handed {X : Addr → Prop} {h : Heap} {v : Value} {d : D} (r : Rd X h v d) (hd : handD d = true) : handedIn v = true := by cases r <;> first | rfl | cases hd
theorem findObj_val {K : Frag} {C : Addr} {od : Obj} {name : Str} {v : Value} (hd : (clsIn K C).any (·.hasDict) = true) (hf : findIn K (.ref C) name = some none) (hl : lookIn name od = some (some v)) : findObj K C (some od) name = some (.value v) := by
  obtain ⟨cd, hc, hh⟩ := any_some hd
  unfold findObj PySem.W.ownOf
  simp [hc, hf, hh, hl]

section
variable {c : Cx} {k : Nat} {env : Env} {ρ : Vars} {μ : Mem} {K : Frag} {C : Addr}

theorem ev_attr {x name : Str} {px pos : Pos} {ns : List Str} {ds : List D} {d : D} (H : ClsK c K C) (hn : findIn K (.ref C) name = some none) (he : Ev c k env ρ μ (.Name x px) (.inst C ns ds)) (hl : (ns.zip ds).lookup name = some d) (hp : handD d = true := by rfl) :
    Ev c k env ρ μ (.Attribute (.Name x px) name pos) d := by
  intro X A s hA R E
  refine Attribute_name (gives_bind (he X A s hA R) fun v s₁ k₁ r₁ => ?_)
  obtain ⟨a, ox, od, vs, rfl, I, hlk, hr⟩ := inst_at r₁
  obtain ⟨u, hu, ru⟩ := zlook hr hl
  exact get_value (H.kx.keeps (R.base.trans k₁.sub)) I H.ga (findObj_val H.dict hn (by rw [hlk, hu])) (handed ru hp) ⟨k₁.trans (Kp.tok s₁ _), ru⟩

theorem ev_meth {x name : Str} {px apos pos : Pos} {ns : List Str} {ds es : List D} {r : D} {f : Addr} {st : Stmt} {args : List Expr} {pl : Sem Bool} (H : ClsK c K C) (hf : findIn K (.ref C) name = some (some (.ref f))) (ht : typeIn K (.ref f) = some (.type "function")) (hF : FnAt c f st)
    (ho : Ev c k env ρ μ (.Name x px) (.inst C ns ds)) (ha : EvAll c k env ρ μ args es) (hFn : Fn c k f (.inst C ns ds :: es) r) (hl : (ns.zip ds).lookup name = none := by rfl) (hne : args ≠ [] := by intro h; cases h)
    (he : eval (.Call (.Attribute (.Name x px) name apos) args [] pos) env = (do
      let ov ← eval (.Name x px) env
      standAt apos.atName
      let (f, first) ← holding [ov] (getMethod ov name pl)
      callWith pos f first (backTo pos (starEach args env)) (backToKw pos (keywordEach [] env))) := by rfl) : Ev c k env ρ μ (.Call (.Attribute (.Name x px) name apos) args [] pos) r := by
  intro X A s hA R E
  refine methodCall_KW (pl := pl) (gives_bind (ho X A s hA R) fun v s₁ k₁ r₁ => ?_) he
  obtain ⟨a, ox, od, vs, rfl, I, hlk, hr⟩ := inst_at r₁
  have R₁ := R.keep k₁.sub
  refine method_fn (H.kx.keeps R₁.base) I H.ga H.gt hf ht (by show (lookIn name od).map _ = _; rw [hlk, zlook_none hr hl]; rfl) ?_
  obtain ⟨o, nm, qn, doc, pm, an, cdv, ct, ho', hd', hcd⟩ := hF
  show wpAny _ _ (callWith pos (.ref f) [.ref a] (backTo pos (starEach args env)) []) _ _ _
  refine callWith_first (first := [.ref a]) R₁ hA ha (fun s' k' => ⟨.frame, .inl rfl, fun Q' hq => ?_⟩) hne fun us s₂ k₂ r₂ => ?_
  · unfold keeperOf
    refine wpAny_bind (wpAny_load (k'.sub _ _ (R₁.base _ _ ho')) ?_)
    rw [hd']; exact wpAny_pure hq
  · have R₂ := R₁.keep k₂.sub
    exact gives_after (hFn X A s₂ (.ref a :: us) hA R₂.base R₂.live (.cons (r₁.keep k₂.sub) r₂)) (k₁.trans k₂)

/-! ## making one -/
theorem Room.make {A : Around} (r : Room (k + 1) A) (vals : List Value) : Room k (A.under (.builtin "type.__call__" ⟨.ref C :: vals, []⟩)) := by
  refine ⟨r.handled, ?_, ?_⟩
  · have := r.depth; show A.depth + 1 + k < _; omega
  · have := r.units
    have e : (Code.builtin "type.__call__" ⟨.ref C :: vals, []⟩).cUnits = 1 := by with_unfolding_all rfl
    show A.units + (Code.builtin "type.__call__" ⟨.ref C :: vals, []⟩).cUnits + 8 * k + 200 < _
    omega

/-! ## within __init__ -/
theorem set_attr {A : Around} {E : Value → Shared → Prop} {s : Shared} {x dx : Addr} {name : Str} {v : Value} {m : Str → Option Value} {ns : List Str} {Q : Unit → Shared → Prop} (KX : K.In s.heap) (hsa : findIn K (.ref C) "__setattr__" = some (some (.builtin "object.__setattr__")))
    (hp : plainOver K C = true) (hn : findIn K (.ref C) name = some none) (hd : (clsIn K C).any (·.hasDict) = true) (hx : s.heap.get? x = some (instObj C dx)) (hns : s.heap.Ns1 dx m) (hw : Within m ns) (hz : ns.length ≤ 1000)
    (h : ∀ h' t, h'.Ns1 dx (fun y => if y = name then some v else m y) → Heap.SameBut dx s.heap h' → Q () { s with heap := h', toks := t }) : wpAny (model c.prog c.w) A (setAttr (.ref x) name v) Q E s := by
  obtain ⟨od, ho, hl⟩ := ns_look hns.ns
  have I : PySem.W.InstAt s.heap x (instObj C dx) C (some od) := ⟨hx, rfl, rfl, ho⟩
  refine set_plain KX I hsa ?_
  have ht : takerIn K C name = some none := by unfold takerIn; rw [hn]; rfl
  refine osa_open (s := { s with toks := s.toks + 1 }) KX I hp ht fun b => ?_
  obtain ⟨cd, hc, hd'⟩ := any_some hd
  refine wpAny_bind (wpAny_pure (wpAny_bind (wpAny_bind (wpAny_loadPart (s := { s with toks := s.toks + 1 }) hx (wpAny_bind (Looks.here (s := { s with toks := s.toks + 1 }) (looks_clsIn KX hc) ?_))))))
  rw [hd']
  refine wpAny_pure (a := some dx) (wpAny_bind (wpAny_pure (wpAny_bind ?_)))
  refine wpAny_nsSet1 (s := { s with toks := s.toks + 1 }) hns fun h' h1 h2 => ?_
  obtain ⟨oD, esD, epD, hoD, hdD, hcD⟩ := h1.count (Within.cons name v hw)
  refine wpAny_bind (wpAny_lookBehind (s := { s with heap := h', toks := s.toks + 1 + 1 }) hoD (by rw [hdD]; exact pastItsLine_dict (Nat.le_trans hcD (by rw [List.length_cons, sizeLine_eq]; omega))) (wpAny_pure ?_))
  exact h h' _ h1 h2

/-- more is fixed -/
def Cx.on (c : Cx) (h : Heap) (k : Sub c.base h) : Cx := { c with base := h, g := c.g.keeps k, b := c.b.keeps k, nolimit := c.nolimit.keeps k }
theorem FnAt.on {h : Heap} {f : Addr} {st : Stmt} (x : FnAt c f st) (k : Sub c.base h) : FnAt (c.on h k) f st := by
  obtain ⟨o, nm, qn, doc, pm, an, cdv, ct, ho, hd, hcd⟩ := x
  exact ⟨o, nm, qn, doc, pm, an, cdv, ct, k _ _ ho, hd, hcd.keeps k⟩
theorem ClsK.on {h : Heap} (x : ClsK c K C) (k : Sub c.base h) : ClsK (c.on h k) K C := ⟨x.kx.keeps k, x.ga, x.gt, x.dict⟩
theorem St.on {X₀ : Addr → Prop} {s : Shared} (S : St c X₀ env ρ μ s) : ∃ h, ∃ k : Sub c.base h, St (c.on h k) X₀ env ρ μ s ∧ ∀ a o, s.heap.get? a = some o → ¬ Mut env μ a → h.get? a = some o := by
  let l : List Addr := env.locals :: (env.cells.filterMap (fun p => env.cells.lookup p.1) ++ μ.map (·.1))
  have hl : ∀ a, a ∈ l ↔ Mut env μ a := fun a => by
    constructor
    · intro h
      rcases List.mem_cons.mp h with q | q
      · exact .inl q
      · rcases List.mem_append.mp q with q | q
        · obtain ⟨p, _, e⟩ := List.mem_filterMap.mp q; exact .inr (.inl ⟨p.1, e⟩)
        · obtain ⟨p, hp, rfl⟩ := List.mem_map.mp q; exact .inr (.inr ⟨p.2, hp⟩)
    · rintro (q | ⟨n, q⟩ | ⟨ds, q⟩)
      · exact List.mem_cons.mpr (.inl q)
      · exact List.mem_cons.mpr (.inr (List.mem_append_left _ (List.mem_filterMap.mpr ⟨(n, a), mem_of_lookup q, q⟩)))
      · exact List.mem_cons.mpr (.inr (List.mem_append_right _ (List.mem_map.mpr ⟨_, q, rfl⟩)))
  have kb : Sub c.base (hideAll s.heap l) := fun a o e => hideAll_get l (S.base a o e) fun q => by first | exact (no1 (S.own a ((hl a).mp q)) e).elim | exact (no1 e (S.own a ((hl a).mp q))).elim | (rw [S.own a ((hl a).mp q)] at e; cases e)
  refine ⟨hideAll s.heap l, kb, { S with base := fun a o e => of_hideAll l e, own := fun a m => hideAll_none l ((hl a).mpr m) }, fun a o e n => hideAll_get l e fun q => n ((hl a).mp q)⟩
theorem St.off {X₀ : Addr → Prop} {s : Shared} {h : Heap} {k : Sub c.base h} (S : St (c.on h k) X₀ env ρ μ s) : St c X₀ env ρ μ s := by
  refine { S with base := k.trans S.base, own := fun a m => ?_ }
  refine none_of fun o e => ?_
  exact absurd ((k a o e).symm.trans (S.own a m)) (by intro q; cases q)

/-- what is being made, lent out: its fields are plain -/
theorem ev_lendI {x dx : Addr} {n : Str} {ns : List Str} {us : List Value} {ds : List D} {e : Expr} {d : D} (hx : c.base.get? x = some (instObj C dx)) (hns : c.base.Ns dx (fun y => (ns.zip us).lookup y)) (hl : ns.length = us.length) (hr : RdAll (fun _ => True) c.base us ds) (hsc : ∀ d ∈ ds, scalar d = true)
    (hn : ρ.lookup n = some (.raw (.ref x))) (he : Ev c k env ((n, .inst C ns ds) :: ρ) [] e d) (hs : scalar d = true := by rfl) : Ev c k env ρ [] e d := by
  intro X A s hA R E
  have R' : Rc c (fun b => X b ∧ b ≠ x ∧ b ≠ dx) env ((n, .inst C ns ds) :: ρ) [] s := by
    refine ⟨R.ok, R.base, fun a h => R.live a h.1, fun n' a h => ?_, R.apart, fun y d' q => ?_, fun a es h => (nomatch h)⟩
    · obtain ⟨h1, h2, h3⟩ := R.cel n' a h
      refine ⟨⟨h1, fun q => ?_, fun q => ?_⟩, h2, h3⟩
      · rw [q, hx] at h2; cases h2
      · obtain ⟨o, _, _, e, _⟩ := hns; rw [q, e] at h2; cases h2
    · rw [List.lookup_cons] at q
      cases hb : y == n with
      | true =>
        first | exact (no1 (hb) q).elim | exact (no1 q (hb)).elim | (rw [hb] at q; cases q)
        obtain ⟨v, hv, r⟩ := R.vars n _ hn
        cases r
        rw [beq_iff_eq.mp hb]
        exact ⟨_, hv, .inst (fun z => z.2.1 rfl) (R.base _ _ hx) rfl rfl rfl (fun z => z.2.2 rfl) (hns.keeps R.base) hl (hr.scalar hsc)⟩
      | false =>
        rw [hb] at q
        obtain ⟨v, hv, r⟩ := R.vars y d' q
        exact ⟨v, hv, r.weak fun _ z => z.1⟩
  exact wpAny_mono (he _ A s hA R' E) (fun _ _ q => ⟨q.1, q.2.scalar hs⟩) fun _ _ e => e

/-! ## the steps of an __init__ -/
structure MkI (c : Cx) (X : Addr → Prop) (env : Env) (x dx : Addr) : Prop where
  X : X dx
  base : c.base.get? dx = none
  nx : ¬ Mut env [] x
  nd : ¬ Mut env [] dx
  ne : x ≠ dx
structure Mkg (C x dx : Addr) (m : Str → Option Value) (s : Shared) : Prop where
  x : s.heap.get? x = some (instObj C dx)
  ns : s.heap.Ns1 dx m
structure GoI (env : Env) (dx : Addr) (s s' : Shared) : Prop where
  same : Same s s'
  keep : ∀ b o, b ≠ dx → ¬ Mut env [] b → s.heap.get? b = some o → s'.heap.get? b = some o
theorem GoI.trans {dx : Addr} {s s' s'' : Shared} (a : GoI env dx s s') (b : GoI env dx s' s'') : GoI env dx s s'' := ⟨a.same.trans b.same, fun y o n m e => b.keep y o n m (a.keep y o n m e)⟩

section
variable {X : Addr → Prop} {A : Around} {E : Value → Shared → Prop} {s : Shared} {x dx : Addr} {m : Str → Option Value} {Q : Flow → Shared → Prop}
theorem step_self {self attr : Str} {px apos pos : Pos} {e : Expr} {d : D} {ns : List Str} (I : MkI c X env x dx) (S : St c X env ρ [] s) (N : Mkg C x dx m s) (hA : Room k A) (kx : K.In c.base) (hsa : findIn K (.ref C) "__setattr__" = some (some (.builtin "object.__setattr__")))
    (hp : plainOver K C = true) (hn : findIn K (.ref C) attr = some none) (hd : (clsIn K C).any (·.hasDict) = true) (hw : Within m ns) (hz : ns.length ≤ 1000) (he : Ev c k env ρ [] e d) (hself : ρ.lookup self = some (.raw (.ref x)))
    (h : ∀ v s', St c X env ρ [] s' → GoI env dx s s' → Mkg C x dx (fun y => if y = attr then some v else m y) s' → Rd (XOf X env []) s'.heap v d → Q .next s') (hdb : (self == ("__debug__" : Str)) = false := by decide)
    (hs : swapsWith e (some (.Attribute (.Name self px) attr apos)) pos.line env = pure false := by rfl) : wpAny (model c.prog c.w) A (exec (.Assign [.Attribute (.Name self px) attr apos] e pos) env) Q E s := by
  refine plainObj_wpAny_Assign_Attribute (gives_bind (he _ _ s hA S.rc) fun v s₁ k₁ r₁ => ?_) hs
  refine gives_bind (ev_name hself hdb _ _ s₁ hA (S.kp k₁).rc) fun u s₂ k₂ r₂ => ?_
  have S₂ := (S.kp k₁).kp k₂
  have kk := k₁.trans k₂
  cases r₂
  refine set_attr (kx.keeps S₂.base) hsa hp hn hd (kk.sub _ _ N.x) (N.ns.at fun o e => kk.sub _ _ e) hw hz fun h' t' hns' hsb' => ?_
  exact h v _ (S₂.butX I.X I.base I.nd hsb' (let ⟨o, _, _, e, _⟩ := hns'; ⟨o, e⟩)) ⟨kk.same.trans ⟨rfl, rfl⟩, fun b o n _ e => hsb'.extBut b o n (kk.sub _ _ e)⟩ ⟨hsb'.extBut _ _ I.ne (kk.sub _ _ N.x), hns'⟩ ((r₁.keep k₂.sub).but (.inl I.X) hsb')
theorem step_ex {st : Stmt} {ρ₀ : Vars} (I : MkI c X env x dx) (S : St c X env ρ [] s) (N : Mkg C x dx m s) (hA : Room k A) (hE : Ex1 c k env ρ [] st (fun o ρ' μ' => o = .next ∧ (∀ y d, ρ₀.lookup y = some d → ρ'.lookup y = some d) ∧ μ' = []))
    (h : ∀ s', St c X env ρ₀ [] s' → GoI env dx s s' → Mkg C x dx m s' → Q .next s') : wpAny (model c.prog c.w) A (exec st env) Q E s := by
  refine wpAny_mono (hE X A s E hA S) (fun fl s' p => ?_) fun _ _ e => e
  obtain ⟨o, ρ', μ', a, S', g, rfl, hρ, rfl⟩ := p
  cases fl <;> first | exact a.elim | skip
  exact h s' (S'.weak hρ) ⟨g.same, fun b o _ n e => g.keep b o n e⟩ ⟨g.keep _ _ I.nx N.x, N.ns.at fun o e => g.keep _ _ I.nd e⟩
theorem step_on {st : Stmt} {ρ₀ : Vars} (I : MkI c X env x dx) (S : St c X env ρ [] s) (N : Mkg C x dx m s) (hA : Room k A)
    (hE : ∀ hb kb, (c.on hb kb).base.get? x = some (instObj C dx) → (c.on hb kb).base.Ns dx m → Ex1 (c.on hb kb) k env ρ [] st (fun o ρ' μ' => o = .next ∧ (∀ y d, ρ₀.lookup y = some d → ρ'.lookup y = some d) ∧ μ' = []))
    (h : ∀ s', St c X env ρ₀ [] s' → GoI env dx s s' → Mkg C x dx m s' → Q .next s') : wpAny (model c.prog c.w) A (exec st env) Q E s := by
  obtain ⟨hb, kb, S₁, keepb⟩ := S.on
  refine wpAny_mono (hE hb kb (keepb _ _ N.x I.nx) (let ⟨o, es, ep, e, r⟩ := N.ns.ns; ⟨o, es, ep, keepb _ _ e I.nd, r⟩) X A s E hA S₁) (fun fl s' p => ?_) fun _ _ e => e
  obtain ⟨o, ρ', μ', a, S', g, rfl, hρ, rfl⟩ := p
  cases fl <;> first | exact a.elim | skip
  exact h s' (S'.off.weak hρ) ⟨g.same, fun b o _ n e => g.keep b o n e⟩ ⟨g.keep _ _ I.nx N.x, N.ns.at fun o e => g.keep _ _ I.nd e⟩
end

theorem ex_expr {Q : Out → Vars → Mem → Prop} {e : Expr} {d : D} {pos : Pos} (he : Ev c k env ρ μ e d) (h : Q .next ρ μ) (hi : interactive env = false := by rfl) (hs : swapsWith e none pos.line env = pure false := by rfl) : Ex1 c k env ρ μ (.Expr e pos) Q := by
  intro X₀ A s E hA S
  exact wpAny_Expr_any (gives_bind (he _ A s hA S.rc) fun v s₁ k₁ r₁ => ⟨.next, ρ, μ, trivial, S.kp k₁, Go.of_kp k₁, h⟩) hi hs
end
end Mine
end

/-! # N5 -/
section
set_option autoImplicit false
set_option linter.unusedVariables false
namespace Mine
open PySem PySem.Calls PyProof.Rows

inductive All2 {α β : Type} (r : α → β → Prop) : List α → List β → Prop
  | nil : All2 r [] []
  | cons {a b l m} : r a b → All2 r l m → All2 r (a :: l) (b :: m)

/-! # comprehensions whose list is the caller's own -/
section
variable {c : Cx} {k : Nat} {env : Env} {ρ : Vars} {μ : Mem} {elt iter : Expr} {x : Str} {px : Pos} {ifs : List Expr} {scope : Scope} {pos : Pos} {ds : List D} {p : D → Bool} {δ : Type} {f : D → δ}

/-- what is said of the items of the list that grows: Z: what is not touched by it, old: the heap ahead of it -/
abbrev Jt (δ : Type) := (Addr → Prop) → Heap → List δ → Heap → List Value → Prop
structure JOk (J : Jt δ) : Prop where
  nil : ∀ Z old h, J Z old [] h []
  frame : ∀ Z old out h h' ys, (∀ b o, ¬ Z b → h.get? b = some o → h'.get? b = some o) → J Z old out h ys → J Z old out h' ys
  len : ∀ Z old out h ys, J Z old out h ys → ys.length = out.length

/-- an item of it -/
def EvJ (J : Jt δ) (c : Cx) (k : Nat) (env : Env) (ρ : Vars) (μ : Mem) (e : Expr) (d : δ) : Prop :=
  ∀ X A s old E, Room k A → Rc c X env ρ μ s → Sub old s.heap → wpAny (model c.prog c.w) A (eval e env) (fun u s' => Kp s s' ∧ ∀ out ys, J X old out s.heap ys → J X old (out ++ [d]) s'.heap (ys ++ [u])) E s

section
variable {X : Addr → Prop} {A : Around} {E : Value → Shared → Prop} {s s₂ : Shared} {I : Addr} {fp wr : List Addr} {P : Nat → Value → Prop} {W : Nat → Heap → Prop} {D : Nat} {cenv : Env} {h₄ : Heap} {ρc : Vars} {old : Heap} {J : Jt δ}

structure CAtJ (c : Cx) (X : Addr → Prop) (ρc : Vars) (s₂ : Shared) (wr : List Addr) (W : Nat → Heap → Prop) (D : Nat) (cenv : Env) (old : Heap) (J : Jt δ) (out : List δ) (i : Nat) (s' : Shared) : Prop where
  w : W i s'.heap
  st : St c (fun a => X a ∨ a ∈ D :: wr) cenv ρc [] s'
  list : ∃ ys, PL s'.heap D ys ∧ J (XOf (fun a => X a ∨ a ∈ D :: wr) cenv []) old out s'.heap ys.toList
  same : Same s₂ s'
  keep : ∀ b o, b ∉ wr → s₂.heap.get? b = some o → s'.heap.get? b = some o

theorem CAtJ.kp (jo : JOk J) {out : List δ} {i : Nat} {s' s'' : Shared} (C : CAtJ c X ρc s₂ wr W D cenv old J out i s') (O : SrcOf c X A ds s s₂ I fp wr P W) (k : Kp s' s'') : CAtJ c X ρc s₂ wr W D cenv old J out i s'' :=
  ⟨O.walks.frame _ _ _ C.w fun b _ o e => k.sub b o e, C.st.kp k, let ⟨ys, ⟨o, e, q⟩, r⟩ := C.list; ⟨ys, ⟨o, k.sub D o e, q⟩, jo.frame _ _ _ _ _ _ (fun b o _ e => k.sub b o e) r⟩, C.same.trans k.same, fun b o w e => k.sub b o (C.keep b o w e)⟩
theorem CAtJ.weak {out : List δ} {i : Nat} {s' : Shared} {ρ₁ : Vars} (C : CAtJ c X ρ₁ s₂ wr W D cenv old J out i s') (h : ∀ y d, ρc.lookup y = some d → ρ₁.lookup y = some d) : CAtJ c X ρc s₂ wr W D cenv old J out i s' := ⟨C.w, C.st.weak h, C.list, C.same, C.keep⟩

theorem compJ_take (jo : JOk J) {out : List δ} {i : Nat} {s' : Shared} {v : Value} {h' : Heap} {tk : Nat} {Q : Unit → Shared → Prop} (B : CB c X ρc x s s₂ wr D cenv h₄) (O : SrcOf c X A ds s s₂ I fp wr P W) (hb : Sub c.base s.heap) (C : CAtJ c X ρc s₂ wr W D cenv old J out i s') (hlt : i < ds.length) (hP : P i v) (hW : W (i + 1) h')
    (hk : ∀ b o, b ∉ wr → s'.heap.get? b = some o → h'.get? b = some o) (h : ∀ s₆, CAtJ c X ((x, ds[i]) :: ρc) s₂ wr W D cenv old J out (i + 1) s₆ → Q () s₆) : wpAny (model c.prog c.w) A (assign (.Name x px) cenv v) Q E { s' with heap := h', toks := tk } := by
  have S₅ : St c (fun a => X a ∨ a ∈ D :: wr) cenv ρc [] { s' with heap := h', toks := tk } := C.st.inX (s' := { s' with heap := h', toks := tk }) hk (fun b hb => .inr (List.mem_cons_of_mem _ hb)) (O.wrLive _ _ hW) (B.wM O) (O.new_base hb)
  have K5 : ∀ b o, b ∉ wr → s₂.heap.get? b = some o → h'.get? b = some o := fun b o w e => hk b o w (C.keep b o w e)
  have r₅ : Rd (XOf (fun a => X a ∨ a ∈ D :: wr) cenv []) h' v ds[i] := (O.item i _ v (List.getElem?_eq_getElem hlt) hP).mono fun (a : Nat) o n e => by
    have nw : a ∉ wr := fun w => n (.inr w)
    have := B.old a o e
    refine ⟨?_, K5 a o nw e⟩
    rintro ((y | y) | y)
    · exact n (.inl y)
    · exact (List.mem_cons.mp y).elim (Nat.ne_of_lt this) nw
    · exact B.outM (Nat.le_of_lt this) (fun q _ _ => n (.inl q)) y
  refine wpAny_assign_Name (st_store' S₅ B.stor r₅ fun s₆ S₆ g₆ hsb => h s₆ ⟨O.walks.frame _ _ _ hW fun b hb o e => g₆.keep b o (B.fM O b hb) e, S₆, ?_, C.same.trans ⟨g₆.same.os, g₆.same.gens⟩, fun b o w e => hsb.extBut b o (Nat.ne_of_lt (Nat.lt_of_lt_of_le (B.old b o e) (Nat.le_trans (Nat.le_succ _) B.addr))) (K5 b o w e)⟩)
  obtain ⟨ys, ⟨o, e, q⟩, r⟩ := C.list
  exact ⟨ys, ⟨o, g₆.keep D o (B.DM O) (hk D o (fun w => Nat.lt_irrefl _ (B.wD O w)) e), q⟩, jo.frame _ _ _ _ _ _ (fun a o n e => g₆.keep a o (fun m => n (.inr m)) (hk a o (fun w => n (.inl (.inr (List.mem_cons_of_mem _ w)))) e)) r⟩

theorem compJ_put (jo : JOk J) {out out' : List δ} {i : Nat} {s' s'' : Shared} {u : Value} {Q : Value → Shared → Prop} {ρ₁ : Vars} (B : CB c X ρc x s s₂ wr D cenv h₄) (O : SrcOf c X A ds s s₂ I fp wr P W) (hb : Sub c.base s.heap) (hz : out.length ≤ sizeLine) (C : CAtJ c X ρ₁ s₂ wr W D cenv old J out i s') (kk : Kp s' s'')
    (r : ∀ ys, J (XOf (fun a => X a ∨ a ∈ D :: wr) cenv []) old out s'.heap ys → J (XOf (fun a => X a ∨ a ∈ D :: wr) cenv []) old out' s''.heap (ys ++ [u]))
    (h : ∀ h', CAtJ c X ρ₁ s₂ wr W D cenv old J out' i { s'' with heap := h' } → Q .none { s'' with heap := h' }) : wpAny (model c.prog c.w) A (call (.builtin "list.append") [.ref D, u]) Q E s'' := by
  obtain ⟨ys, ⟨o, e, q⟩, hr⟩ := C.list
  have hl : PL s''.heap D ys := ⟨o, kk.sub _ _ e, q⟩
  refine list_append_plainL (hsz := by have := jo.len _ _ _ _ _ hr; rw [Array.length_toList] at this; exact this ▸ hz) hl.plain fun h₉ hl₉ hs₉ => h h₉ ?_
  have hl₉ := PL.of hl₉
  have hD : ∀ b, b ∈ [D] → b = D := fun b h => List.mem_singleton.mp h
  have hXD : XOf (fun a => X a ∨ a ∈ D :: wr) cenv [] D := .inl (.inr List.mem_cons_self)
  refine ⟨O.walks.frame _ _ _ C.w fun b hb o e => hs₉.extBut b o (by obtain ⟨_, o', e'⟩ := O.foot b hb; exact Nat.ne_of_lt (B.old b o' e')) (kk.sub b o e),
    (C.st.kp kk).inX (s' := { s'' with heap := h₉ }) (wr := [D]) (fun b o w e => hs₉.extBut b o (fun q => w (List.mem_singleton.mpr q)) e) (fun b hb => hD b hb ▸ .inr List.mem_cons_self) (fun b hb => hD b hb ▸ (let ⟨o, e, _⟩ := hl₉; ⟨o, e⟩)) (fun b hb => hD b hb ▸ B.DM O) (fun b h => hD b h ▸ none_of fun o e => no1 (B.new (Nat.le_refl _)) (O.kp.sub D o (hb D o e))),
    ⟨ys.push u, hl₉, by rw [Array.toList_push]; exact jo.frame _ _ _ _ _ _ (fun b o n e => hs₉.extBut b o (fun q => n (q ▸ hXD)) e) (r _ hr)⟩, (C.same.trans kk.same).trans ⟨rfl, rfl⟩, fun b o w e => hs₉.extBut b o (Nat.ne_of_lt (B.old b o e)) (kk.sub b o (C.keep b o w e))⟩

/-- the list at the end -/
structure NewJ (J : Jt δ) (X : Addr → Prop) (s s' : Shared) (a C : Addr) (out : List δ) : Prop where
  new : s.heap.get? a = none
  newC : s.heap.get? C = none
  ne : a ≠ C
  ns : ∃ m, s'.heap.Ns C m
  kp : Kp s s'
  list : ∃ Z ys, PL s'.heap a ys ∧ J Z s.heap out s'.heap ys.toList ∧ (∀ b, X b → Z b) ∧ Z a ∧ Z C

theorem compJ_done (jo : JOk J) {s' : Shared} {h' : Heap} {tk : Nat} {i : Nat} {out : List δ} (B : CB c X ρc x s s₂ wr D cenv h₄) (O : SrcOf c X A ds s s₂ I fp wr P W) (C : CAtJ c X ρc s₂ wr W D cenv s.heap J out i s') (hk : ∀ b o, b ∉ wr → s'.heap.get? b = some o → h'.get? b = some o) :
    NewJ J X s { s' with heap := h', toks := tk } D (D + 1) out := by
  have n₂ : ∀ b : Nat, D ≤ b → s.heap.get? b = none := fun b h => none_of fun o e => no1 (B.new h) (O.kp.sub b o e)
  refine ⟨n₂ _ (Nat.le_refl _), n₂ _ (Nat.le_succ _), Nat.ne_of_lt (Nat.lt_succ_self _), ?_, ⟨fun b o e => ?_, (O.kp.same.trans C.same).trans ⟨rfl, rfl⟩⟩, ?_⟩
  · obtain ⟨m, o, es, ep, e, r⟩ := C.st.ns
    exact ⟨m, o, es, ep, B.loc ▸ hk _ o (fun w => B.wM O _ w (.inl rfl)) e, r⟩
  · have w : b ∉ wr := fun w => no1 (O.new b w) e
    exact hk b o w (C.keep b o w (O.kp.sub b o e))
  · obtain ⟨ys, ⟨o, e, q⟩, hr⟩ := C.list
    exact ⟨_, ys, ⟨o, hk D o (fun w => Nat.lt_irrefl _ (B.wD O w)) e, q⟩, jo.frame _ _ _ _ _ _ (fun a o n e => hk a o (fun w => n (.inl (.inr (List.mem_cons_of_mem _ w)))) e) hr, fun b h => .inl (.inl h), .inl (.inr List.mem_cons_self), .inr (.inl B.loc.symm)⟩

theorem compJ_loop (jo : JOk J) {R : Result → Shared → Prop} (hA : Room k A) (hbase : Sub c.base s.heap) (B : CB c X ρc x s s₂ wr D cenv h₄) (hPL : PL h₄ D #[]) (O : SrcOf c X A ds s s₂ I fp wr P W) (hlen : ds.length ≤ 16777216)
    (tests : ∀ d, d ∈ ds → Tests c k cenv ((x, d) :: ρc) ifs (p d)) (elts : ∀ d, d ∈ ds → p d = true → EvJ J c k cenv ((x, d) :: ρc) [] elt (f d))
    (hR : ∀ s', NewJ J X s s' D (D + 1) ((ds.filter p).map f) → R (.ok .next) s') :
    codeAny (model c.prog c.w) A (.compLoop (.ListComp elt [⟨.Name x px, iter, ifs, 0⟩] scope pos) 0 (.ref I) (.ref D) cenv) R { s₂ with heap := h₄ } := by
  refine codeAny_compLoop_tests (fun n s' => ∃ i, i ≤ ds.length ∧ n = ds.length + 1 - i ∧ CAtJ c X ρc s₂ wr W D cenv s.heap J (((ds.take i).filter p).map f) i s') ?_ (ds.length + 1)
    ⟨0, Nat.zero_le _, rfl, O.walks.frame _ _ _ O.start fun b hb o e => B.sub b o e, B.st, ⟨#[], hPL, jo.nil _ _ _⟩, ⟨rfl, rfl⟩, fun b o _ e => B.sub b o e⟩
  rintro n s' ⟨i, hle, rfl, C⟩
  by_cases hlt : i < ds.length
  · refine O.walks.item i s' _ _ hlt C.w fun v h' tk hP hW' hk => compJ_take jo B O hbase C hlt hP hW' hk fun s₆ C₆ => ?_
    have hmem : ds[i] ∈ ds := List.getElem_mem hlt
    have htake : ds.take (i + 1) = ds.take i ++ [ds[i]] := by rw [List.take_add_one, List.getElem?_eq_getElem hlt]; rfl
    have hn : ds.length + 1 - (i + 1) < ds.length + 1 - i := Nat.sub_lt_sub_left (Nat.lt_succ_of_lt hlt) (Nat.lt_succ_self i)
    have hw : ∀ y d, ρc.lookup y = some d → ((x, ds[i]) :: ρc).lookup y = some d := fun y d e => by
      rw [List.lookup_cons, beq_false_of_ne (B.fresh y d e)]; exact e
    refine wpAny_mono (tests ds[i] hmem _ A s₆ _ hA C₆.st.rc) (fun b s₇ q => ?_) fun _ _ e => e
    obtain ⟨k₇, rfl⟩ := q
    have C₇ := C₆.kp jo O k₇
    cases hp : p ds[i] with
    | false =>
      simp only [Bool.false_eq_true, if_false]
      have ho : ((ds.take (i + 1)).filter p).map f = ((ds.take i).filter p).map f := by rw [htake, List.filter_append]; simp [hp]
      exact ⟨_, hn, i + 1, hlt, rfl, ho ▸ C₇.weak hw⟩
    | true =>
      simp only [if_true]
      have hold : Sub s.heap s₇.heap := fun b o e => C₇.keep b o (fun w => no1 (O.new b w) e) (O.kp.sub b o e)
      refine wpAny_mono (elts ds[i] hmem hp _ A s₇ s.heap _ hA C₇.st.rc hold) (fun u s₈ q => ?_) fun _ _ e => e
      refine compJ_put jo B O hbase ?_ C₇ q.1 (fun ys hj => q.2 _ _ hj) fun h₉ C₉ => ?_
      · rw [List.length_map, sizeLine_eq]
        exact Nat.le_trans (List.length_filter_le _ _) (Nat.le_trans (List.length_take_le _ _) (by lia))
      · have ho : ((ds.take (i + 1)).filter p).map f = ((ds.take i).filter p).map f ++ [f ds[i]] := by rw [htake, List.filter_append]; simp [hp]
        exact ⟨_, hn, i + 1, hlt, rfl, ho ▸ C₉.weak hw⟩
  · have hin : i = ds.length := Nat.le_antisymm hle (Nat.not_lt.mp hlt)
    refine O.walks.done s' _ _ (hin ▸ C.w) fun h' tk hk => ?_
    have x := compJ_done (tk := tk) jo B O C hk
    rw [hin, List.take_length] at x
    exact hR _ x
end

theorem compJ_core {X : Addr → Prop} {A : Around} {E : Value → Shared → Prop} {s s₂ : Shared} {I : Addr} {fp wr : List Addr} {P : Nat → Value → Prop} {W : Nat → Heap → Prop} {cl : List (Str × Addr)} {RR : Value → Addr → Result → Shared → Prop} {J : Jt δ} (jo : JOk J)
    (hA : Room k A) (R : Rc c X env ρ μ s) (O : SrcOf c X A ds s s₂ I fp wr P W) (ok : CompOk scope env x) (hlen : ds.length ≤ 16777216)
    (hcl1 : ∀ n, (n, NameKind.free) ∈ scope.names → ∃ a, cl.lookup n = some a) (hcl2 : ∀ n a, cl.lookup n = some a → env.cells.lookup n = some a ∧ (n, NameKind.free) ∈ scope.names)
    (tests : ∀ C cl d, d ∈ ds → Tests c k (cenvOf scope env C cl) ((x, d) :: capt scope ρ) ifs (p d))
    (elts : ∀ C cl d, d ∈ ds → p d = true → EvJ J c k (cenvOf scope env C cl) ((x, d) :: capt scope ρ) [] elt (f d))
    (hRR : ∀ D C s', NewJ J X s s' D C ((ds.filter p).map f) → RR (.ref D) C (.ok .next) s') :
    wpAny (model c.prog c.w) A (newList []) (fun acc s₃ => wpAny (model c.prog c.w) A (newFunctionEnv scope env.globals cl [] env.qual none .none (some env)) (fun cenv s₄ =>
      codeAny (model c.prog c.w) A (.compStart (.ListComp elt [⟨.Name x px, iter, ifs, 0⟩] scope pos) 0 (.ref I) acc { cenv with scope := relabel scope env }) (RR acc cenv.locals) s₄) E s₃) E s₂ := by
  refine wpAny_newObj_type (newBlock ?_)
  dsimp only
  generalize hD : s₂.heap.objs.size = D
  generalize hH : s₂.heap.push { cls := .type "list", dict := none, data := .seq ([] : List Value).toArray } = H
  have hC : H.objs.size = D + 1 := by rw [← hH, Heap.size_push, hD]
  generalize hcells : cellsFrom (H.objs.size + 1) scope.names cl = cells
  generalize hh₄ : pushCells (H.push { cls := .type "dict", data := .dict #[] }) scope.names = h₄
  rw [hC] at hcells ⊢
  have B := comp_block R O ok hcl1 hcl2 hD hH hC hcells hh₄
  have hPL : PL h₄ D #[] := ⟨_, hh₄ ▸ pushCells_keeps _ _ _ _ (Heap.get?_push_of_some _ (hH ▸ hD ▸ Heap.get?_push_size _ rfl)), rfl, rfl, _, rfl⟩
  have loop := compJ_loop (iter := iter) (px := px) (scope := scope) (pos := pos) (R := RR (.ref D) (D + 1)) jo hA R.base B hPL O hlen (fun d h => tests _ _ d h) (fun d h => elts _ _ d h) fun s' q => hRR D (D + 1) s' q
  exact codeAny_compStart_list loop (O.walks.self 0 _ _ _ (O.walks.frame _ _ _ O.start fun b hb o e => B.sub b o e) loop)

/-- a comprehension, whatever is said of its items -/
theorem compJ_ev {J : Jt δ} (jo : JOk J) {X : Addr → Prop} {A : Around} {E : Value → Shared → Prop} {s : Shared} {Q : Value → Shared → Prop} (hA : Room k A) (R : Rc c X env ρ μ s) (src : Src c k env ρ μ iter ds) (tests : ∀ C cl d, d ∈ ds → Tests c k (cenvOf scope env C cl) ((x, d) :: capt scope ρ) ifs (p d))
    (elts : ∀ C cl d, d ∈ ds → p d = true → EvJ J c k (cenvOf scope env C cl) ((x, d) :: capt scope ρ) [] elt (f d)) (hlen : ds.length ≤ 16777216)
    (h : ∀ a Z ys s', Kp s s' → s.heap.get? a = none → PL s'.heap a ys → J Z s.heap ((ds.filter p).map f) s'.heap ys.toList → (∀ b, X b → Z b) → Z a → Q (.ref a) s')
    (ok : compOk scope env x = true := by rfl) (hs : ∀ x, foldedSetIterable iter env x = pure x := by intro _; rfl) : wpAny (model c.prog c.w) A (eval (.ListComp elt [⟨.Name x px, iter, ifs, 0⟩] scope pos) env) Q E s := by
  have ok' := CompOk.of ok
  obtain ⟨cl, hclos, hcl1, hcl2⟩ := closureFor_free R.ok.has ok'.free
  rw [eval_ListComp]
  refine wpAny_comprehension_free (use := none) rfl hs hclos ok'.kind ok'.names (wpAny_mono (src X A s E hA R) (fun xv s₁ h₁ => wpAny_mono h₁ (fun it s₂ h₂ => ?_) fun _ _ e => e) fun _ _ e => e)
  obtain ⟨I, fp, wr, P, W, rfl, O⟩ := h₂
  refine compJ_core (RR := fun acc C => compPost (model c.prog c.w) A E none Q acc C) jo hA R O ok' hlen hcl1 hcl2 tests elts ?_
  rintro D C s' ⟨hD, hC, hDC, ⟨m, hn⟩, hk, Z, ys, ⟨o, e, q⟩, hj, hX, hZ, hZC⟩
  refine ⟨m, hn, fun h' hs' => h D Z ys _ ⟨fun b o e => hs'.extBut b o (fun q => no1 hC (q ▸ e)) (hk.sub b o e), hk.same.trans ⟨rfl, rfl⟩⟩ hD ⟨o, hs'.extBut _ _ hDC e, q⟩ (jo.frame _ _ _ _ _ _ (fun b o n e => hs'.extBut b o (fun q => n (q ▸ hZC)) e) hj) hX hZ⟩

/-! ## plain items -/
def JR : Jt D := fun Z _ out h ys => RdAll Z h ys out
theorem jokR : JOk JR := ⟨fun _ _ _ => .nil, fun Z old out h h' ys k r => RdAll.mono (fun b o n e => ⟨n, k b o n e⟩) r, fun Z old out h ys r => RdAll.length r⟩
theorem evJR {e : Expr} {d : D} (h : Ev c k env ρ μ e d) : EvJ JR c k env ρ μ e d := fun X A s old E hA R _ =>
  wpAny_mono (h X A s hA R E) (fun u s' q => ⟨q.1, fun out ys r => (RdAll.keep r q.1.sub).append (.cons q.2 .nil)⟩) fun _ _ e => e
/-- the comprehension's list is a list of its own -/
theorem evF_comp {g : D → D} (src : Src c k env ρ μ iter ds) (tests : ∀ C cl d, d ∈ ds → Tests c k (cenvOf scope env C cl) ((x, d) :: capt scope ρ) ifs (p d))
    (elts : ∀ C cl d, d ∈ ds → p d = true → Ev c k (cenvOf scope env C cl) ((x, d) :: capt scope ρ) [] elt (g d)) (hlen : ds.length ≤ 16777216)
    (ok : compOk scope env x = true := by rfl) (hs : ∀ x, foldedSetIterable iter env x = pure x := by intro _; rfl) : EvF c k env ρ μ (.ListComp elt [⟨.Name x px, iter, ifs, 0⟩] scope pos) ((ds.filter p).map g) := fun X A s E hA R =>
  compJ_ev jokR hA R src tests (fun C cl d h hp => evJR (elts C cl d h hp)) hlen (fun a Z ys s' kp hn hl hj hX hZ => ⟨kp, a, ys, rfl, hn, hl, RdAll.weak hj fun b q => q.elim (hX b) fun q => q ▸ hZ⟩) ok hs

/-! ## items that are lists of ints, each its own -/
def IsL (h : Heap) (b : Addr) (is : List Int) : Prop := ∃ vs, PL h b vs ∧ IntsAre vs.toList is
def JN : Jt (List Int) := fun Z old out h ys => ∃ bs : List Addr, ys = bs.map Value.ref ∧ bs.Nodup ∧ (∀ b ∈ bs, ¬ Z b ∧ old.get? b = none) ∧ All2 (IsL h) bs out
theorem forall₂_mono {α β : Type} {r q : α → β → Prop} {l : List α} {m : List β} (h : All2 r l m) (f : ∀ a b, a ∈ l → r a b → q a b) : All2 q l m := by
  induction h with
  | nil => exact .nil
  | cons a _ ih => exact .cons (f _ _ (.head _) a) (ih fun a b m => f a b (.tail _ m))
theorem forall₂_len {α β : Type} {r : α → β → Prop} {l : List α} {m : List β} (h : All2 r l m) : l.length = m.length := by
  induction h with
  | nil => rfl
  | cons _ _ ih => exact congrArg Nat.succ ih
theorem forall₂_snoc {α β : Type} {r : α → β → Prop} {l : List α} {m : List β} {a : α} {b : β} (h : All2 r l m) (x : r a b) : All2 r (l ++ [a]) (m ++ [b]) := by
  induction h with
  | nil => exact .cons x .nil
  | cons y _ ih => exact .cons y ih
theorem IsL.keep {h h' : Heap} {b : Addr} {is : List Int} (x : IsL h b is) (k : ∀ o, h.get? b = some o → h'.get? b = some o) : IsL h' b is := let ⟨vs, ⟨o, e, q⟩, r⟩ := x; ⟨vs, ⟨o, k o e, q⟩, r⟩
theorem IsL.live {h : Heap} {b : Addr} {is : List Int} (x : IsL h b is) : ∃ o, h.get? b = some o := let ⟨_, ⟨o, e, _⟩, _⟩ := x; ⟨o, e⟩
theorem jokN : JOk JN := by
  refine ⟨fun _ _ _ => ⟨[], rfl, .nil, fun _ h => (nomatch h), .nil⟩, fun Z old out h h' ys k r => ?_, fun Z old out h ys r => ?_⟩
  · obtain ⟨bs, h1, h2, h3, h4⟩ := r
    exact ⟨bs, h1, h2, h3, forall₂_mono h4 fun b is hb x => x.keep fun o e => k b o (h3 b hb).1 e⟩
  · obtain ⟨bs, rfl, _, _, h4⟩ := r
    rw [List.length_map]; exact forall₂_len h4
theorem live_of {α : Type} {h : Heap} {r : Addr → α → Prop} (hr : ∀ b a, r b a → ∃ o, h.get? b = some o) : ∀ {bs : List Addr} {l : List α}, All2 r bs l → ∀ b ∈ bs, ∃ o, h.get? b = some o
  | _, _, .cons x y, b, m => (List.mem_cons.mp m).elim (fun q => q ▸ hr _ _ x) fun q => live_of hr y b q
theorem evJN {e : Expr} {is : List Int} (h : EvF c k env ρ μ e (is.map .int)) : EvJ JN c k env ρ μ e is := by
  intro X A s old E hA R hold
  refine wpAny_mono (h X A s E hA R) (fun u s' q => ?_) fun _ _ e => e
  obtain ⟨kp, a, vs, rfl, hn, hl, hr⟩ := q
  refine ⟨kp, ?_⟩
  rintro out ys ⟨bs, rfl, h2, h3, h4⟩
  have ha : a ∉ bs := fun m => let ⟨o, e⟩ := live_of (fun b is x => x.live) h4 a m; no1 hn e
  refine ⟨bs ++ [a], by rw [List.map_append]; rfl, List.nodup_append.mpr ⟨h2, by simp, fun x hx y hy q => ha (List.mem_singleton.mp hy ▸ q ▸ hx)⟩, fun b hb => ?_, forall₂_snoc (forall₂_mono h4 fun b is _ x => x.keep fun o e => kp.sub _ _ e) ⟨vs, hl, rd_ints hr⟩⟩
  rcases List.mem_append.mp hb with hb | hb
  · exact h3 b hb
  · rw [List.mem_singleton.mp hb]
    exact ⟨fun z => let ⟨o, e⟩ := R.live a z; no1 hn e, none_of fun o e => no1 hn (hold a o e)⟩

/-- a list of its own, of lists of their own -/
structure New2 (s s' : Shared) (a : Addr) (bs : List Addr) (iss : List (List Int)) : Prop where
  new : ∀ b ∈ a :: bs, s.heap.get? b = none
  nodup : (a :: bs).Nodup
  outer : PL s'.heap a (bs.map Value.ref).toArray
  inner : All2 (IsL s'.heap) bs iss
def EvNN (c : Cx) (k : Nat) (env : Env) (ρ : Vars) (μ : Mem) (e : Expr) (iss : List (List Int)) : Prop :=
  ∀ X A s E, Room k A → Rc c X env ρ μ s → wpAny (model c.prog c.w) A (eval e env) (fun v s' => Kp s s' ∧ ∃ a bs, v = .ref a ∧ New2 s s' a bs iss) E s
theorem new2_of {s s' : Shared} {a : Addr} {ys : Array Value} {Z : Addr → Prop} {iss : List (List Int)} (hn : s.heap.get? a = none) (hl : PL s'.heap a ys) (hj : JN Z s.heap iss s'.heap ys.toList) (hZ : Z a) : ∃ bs, New2 s s' a bs iss := by
  obtain ⟨bs, h1, h2, h3, h4⟩ := hj
  have : ys = (bs.map Value.ref).toArray := by rw [← h1]
  subst this
  exact ⟨bs, fun b hb => (List.mem_cons.mp hb).elim (fun q => q ▸ hn) fun q => (h3 b q).2, List.nodup_cons.mpr ⟨fun m => (h3 a m).1 hZ, h2⟩, hl, h4⟩
theorem evNN_comp {g : D → List Int} (src : Src c k env ρ μ iter ds) (tests : ∀ C cl d, d ∈ ds → Tests c k (cenvOf scope env C cl) ((x, d) :: capt scope ρ) ifs (p d))
    (elts : ∀ C cl d, d ∈ ds → p d = true → EvF c k (cenvOf scope env C cl) ((x, d) :: capt scope ρ) [] elt ((g d).map .int)) (hlen : ds.length ≤ 16777216)
    (ok : compOk scope env x = true := by rfl) (hs : ∀ x, foldedSetIterable iter env x = pure x := by intro _; rfl) : EvNN c k env ρ μ (.ListComp elt [⟨.Name x px, iter, ifs, 0⟩] scope pos) ((ds.filter p).map g) := fun X A s E hA R =>
  compJ_ev jokN hA R src tests (fun C cl d h hp => evJN (elts C cl d h hp)) hlen (fun a Z ys s' kp hn hl hj hX hZ => ⟨kp, a, let ⟨bs, q⟩ := new2_of hn hl hj hZ; ⟨bs, rfl, q⟩⟩) ok hs
end
end Mine
end

/-! # N6 -/
section
set_option autoImplicit false
set_option linter.unusedVariables false
namespace Mine
open PySem PySem.Calls PyProof.Rows

abbrev rawR (b : Addr) : D := .raw (.ref b)
/-- the memory of a list of lists of ints -/
def memI (bs : List Addr) (iss : List (List Int)) : Mem := (bs.zip iss).map fun p => (p.1, p.2.map D.int)
def memN (a : Addr) (bs : List Addr) (iss : List (List Int)) : Mem := (a, bs.map rawR) :: memI bs iss

theorem mem_memI {bs : List Addr} {iss : List (List Int)} {b : Addr} {ds : List D} (h : (b, ds) ∈ memI bs iss) : b ∈ bs ∧ ∃ is, (b, is) ∈ bs.zip iss ∧ ds = is.map D.int := by
  obtain ⟨⟨b', is⟩, hm, e⟩ := List.mem_map.mp h
  cases e
  exact ⟨(List.of_mem_zip hm).1, is, hm, rfl⟩
theorem all2_zip {r : Addr → List Int → Prop} {bs : List Addr} {iss : List (List Int)} (h : All2 r bs iss) {b : Addr} {is : List Int} (m : (b, is) ∈ bs.zip iss) : r b is := by
  induction h with
  | nil => cases m
  | cons x _ ih =>
    rw [List.zip_cons_cons] at m
    rcases List.mem_cons.mp m with q | q
    · cases q; exact x
    · exact ih q
theorem memI_keys {bs : List Addr} {iss : List (List Int)} (h : bs.length = iss.length) : (memI bs iss).map (·.1) = bs := by
  unfold memI
  rw [List.map_map]
  exact List.map_fst_zip (Nat.le_of_eq h)
theorem memN_key {a : Addr} {bs : List Addr} {iss : List (List Int)} (hl : bs.length = iss.length) (b : Addr) (q : b ∈ a :: bs) : ∃ ds, (b, ds) ∈ memN a bs iss := by
  rcases List.mem_cons.mp q with q | q
  · subst q; exact ⟨_, List.mem_cons_self⟩
  · have h := memI_keys hl
    rw [← h] at q
    obtain ⟨p, hp, rfl⟩ := List.mem_map.mp q
    exact ⟨p.2, List.mem_cons_of_mem _ hp⟩
theorem ints_scalar (is : List Int) : ∀ d ∈ is.map D.int, scalar d = true := fun d h => by obtain ⟨i, _, rfl⟩ := List.mem_map.mp h; rfl

section
variable {c : Cx} {k : Nat} {env : Env} {ρ : Vars} {μ : Mem}

/-- more lists of the call's own, new -/
theorem St.addMs {X₀ : Addr → Prop} {s s' : Shared} {new : Mem} (S : St c X₀ env ρ μ s) (k : Kp s s') (n : ∀ p ∈ new, s.heap.get? p.1 = none) (nd : (new.map (·.1)).Nodup) (hl : ∀ p ∈ new, ML (XOf X₀ env (new ++ μ)) s'.heap p.1 p.2) :
    St c X₀ env ρ (new ++ μ) s' := by
  have S' := S.kp k
  have k' := k.sub
  have hM : ∀ b, Mut env (new ++ μ) b → (∃ p ∈ new, b = p.1) ∨ Mut env μ b := fun b m => by
    rcases m with m | m | ⟨es, m⟩
    · exact .inr (.inl m)
    · exact .inr (.inr (.inl m))
    · rcases List.mem_append.mp m with q | q
      · exact .inl ⟨_, q, rfl⟩
      · exact .inr (.inr (.inr ⟨es, q⟩))
  have hx : ∀ b o, ¬ XOf X₀ env μ b → s.heap.get? b = some o → ¬ XOf X₀ env (new ++ μ) b ∧ s'.heap.get? b = some o := fun b o q e => by
    refine ⟨?_, k' b o e⟩
    rintro (y | y)
    · exact q (.inl y)
    · rcases hM b y with ⟨p, hp, y⟩ | y
      · exact no1 (n p hp) (y ▸ e)
      · exact q (.inr y)
  refine { S' with own := fun b m => ?_, vars := fun x d e => ?_, mem := fun b es m => ?_, nodup := ?_, memX := fun b es m q => ?_ }
  · rcases hM b m with ⟨p, hp, rfl⟩ | q
    · exact none_of fun o e => no1 (n p hp) (S.base _ o e)
    · exact S.own b q
  · obtain ⟨v, y, r⟩ := S.vars x d e; exact ⟨v, y.keep k', r.mono hx⟩
  · rcases List.mem_append.mp m with q | q
    · exact hl _ q
    · obtain ⟨us, ⟨o, e, y⟩, r⟩ := S.mem b es q; exact ⟨us, ⟨o, k' b o e, y⟩, r.mono hx⟩
  · rw [List.map_append]
    refine List.nodup_append.mpr ⟨nd, S.nodup, fun x hx y hy q => ?_⟩
    obtain ⟨p, hp, rfl⟩ := List.mem_map.mp hx
    obtain ⟨⟨b, es⟩, hm, rfl⟩ := List.mem_map.mp hy
    obtain ⟨o, e⟩ := S.live' (.inr (.inr ⟨es, hm⟩))
    exact no1 (n p hp) (show s.heap.get? p.1 = some o from (show p.1 = b from q) ▸ e)
  · rcases List.mem_append.mp m with z | z
    · obtain ⟨o, e⟩ := S.live _ q; exact no1 (n _ z) e
    · exact S.memX b es z q
theorem Go.addMs {s s' : Shared} {new : Mem} (k : Kp s s') (n : ∀ p ∈ new, s.heap.get? p.1 = none) : Go env μ s (new ++ μ) s' := by
  refine ⟨k.same, fun b o _ q => k.sub b o q, fun b o q => ⟨o, k.sub b o q⟩, fun b es h => ?_⟩
  rcases List.mem_append.mp h with q | q
  · exact .inr (n _ q)
  · exact .inl ⟨es, q⟩

theorem New2.len {s s' : Shared} {a : Addr} {bs : List Addr} {iss : List (List Int)} (N : New2 s s' a bs iss) : bs.length = iss.length := forall₂_len N.inner
theorem New2.fresh {s s' : Shared} {a : Addr} {bs : List Addr} {iss : List (List Int)} (N : New2 s s' a bs iss) : ∀ p ∈ memN a bs iss, s.heap.get? p.1 = none := fun p hp => by
  rcases List.mem_cons.mp hp with rfl | q
  · exact N.new _ (.head _)
  · exact N.new _ (.tail _ (mem_memI (ds := p.2) q).1)
theorem New2.nd {s s' : Shared} {a : Addr} {bs : List Addr} {iss : List (List Int)} (N : New2 s s' a bs iss) : ((memN a bs iss).map (·.1)).Nodup := by
  unfold memN
  rw [List.map_cons, memI_keys N.len]
  exact N.nodup
theorem raws_rd {X : Addr → Prop} {h : Heap} : ∀ (bs : List Addr), RdAll X h (bs.map Value.ref) (bs.map rawR)
  | [] => .nil
  | b :: bs => .cons (.raw _) (raws_rd bs)
theorem New2.ml {X : Addr → Prop} {s s' : Shared} {a : Addr} {bs : List Addr} {iss : List (List Int)} (N : New2 s s' a bs iss) : ∀ p ∈ memN a bs iss, ML X s'.heap p.1 p.2 := fun p hp => by
  rcases List.mem_cons.mp hp with rfl | q
  · exact ⟨_, N.outer, raws_rd bs⟩
  · obtain ⟨_, is, hm, e⟩ := mem_memI (ds := p.2) q
    obtain ⟨vs, h1, h2⟩ := all2_zip N.inner hm
    exact ⟨vs, h1, e ▸ ints_rd h2⟩
theorem St.addN {X₀ : Addr → Prop} {s s' : Shared} {a : Addr} {bs : List Addr} {iss : List (List Int)} (S : St c X₀ env ρ μ s) (k : Kp s s') (N : New2 s s' a bs iss) : St c X₀ env ρ (memN a bs iss ++ μ) s' := S.addMs k N.fresh N.nd N.ml

/-- x = such a list -/
theorem ex_assignN {Q : Out → Vars → Mem → Prop} {x : Str} {px pos : Pos} {e : Expr} {iss : List (List Int)} (he : EvNN c k env ρ μ e iss) (h : ∀ a bs, bs.length = iss.length → (a :: bs).Nodup → Q .next ((x, rawR a) :: ρ) (memN a bs iss ++ μ)) (hx : stor env x = true := by rfl)
    (hs : swapsWith e (some (.Name x px)) pos.line env = pure false := by rfl) : Ex1 c k env ρ μ (.Assign [.Name x px] e pos) Q := by
  intro X₀ A s E hA S
  refine wpAny_Assign_Name (wpAny_mono (he _ A s E hA S.rc) (fun v s₁ q => ?_) fun _ _ e => e) hs
  obtain ⟨k₁, a, bs, rfl, N⟩ := q
  exact st_store (S.addN k₁ N) hx (.raw _) fun s' S' g => ⟨.next, _, _, trivial, S', (Go.addMs k₁ N.fresh).trans g, h a bs N.len N.nodup⟩

/-! ## it is lent, all of it -/
theorem all2_of_mem {X : Addr → Prop} {h : Heap} {bs : List Addr} {iss : List (List Int)} (hl : bs.length = iss.length) (hm : ∀ b is, (b, is) ∈ bs.zip iss → ML X h b (is.map D.int)) : All2 (IsL h) bs iss := by
  induction bs generalizing iss with
  | nil => cases iss with | nil => exact .nil | cons => cases hl
  | cons b bs ih =>
    cases iss with
    | nil => cases hl
    | cons is iss => exact .cons (let ⟨vs, p, r⟩ := hm b is (.head _); ⟨vs, p, rd_ints r⟩) (ih (Nat.succ.inj hl) fun b is m => hm b is (.tail _ m))
theorem rd_nest {X : Addr → Prop} {h : Heap} {bs : List Addr} {iss : List (List Int)} (hx : ∀ b ∈ bs, ¬ X b) (hi : All2 (IsL h) bs iss) : RdAll X h (bs.map Value.ref) (iss.map I) := by
  induction hi with
  | nil => exact .nil
  | cons y _ ih =>
    obtain ⟨vs, ⟨o, e, hc, _, n, hd⟩, hv⟩ := y
    exact .cons (.list (hx _ (.head _)) e hc hd (ints_rd hv)) (ih fun b m => hx b (.tail _ m))
abbrev RR (l : List (List Int)) : D := .list (l.map I)
theorem raws_vals {X : Addr → Prop} {h : Heap} : ∀ {bs : List Addr} {vs : List Value}, RdAll X h vs (bs.map rawR) → vs = bs.map Value.ref
  | [], _, .nil => rfl
  | _ :: _, _, .cons (.raw _) r => congrArg _ (raws_vals r)
/-- the whole reads as plain data, where its own addresses are let go -/
theorem rd_own {X X' : Addr → Prop} {h : Heap} {a : Addr} {bs : List Addr} {iss : List (List Int)} (hl : bs.length = iss.length) (hm : ∀ p ∈ memN a bs iss, ML X h p.1 p.2) (hX : ∀ b ∈ a :: bs, ¬ X' b) : Rd X' h (.ref a) (RR iss) := by
  obtain ⟨vs, ⟨o, e, hc, _, n, hd⟩, r⟩ := hm _ (.head _)
  refine .list (hX _ (.head _)) e hc hd ?_
  rw [raws_vals r]
  exact rd_nest (fun b m => hX b (.tail _ m)) (all2_of_mem hl fun b is m => hm (b, is.map D.int) (.tail _ (List.mem_map.mpr ⟨_, m, rfl⟩)))
theorem Rc.lendN {X : Addr → Prop} {s : Shared} {x : Str} {a : Addr} {bs : List Addr} {iss : List (List Int)} (R : Rc c X env ρ μ s) (hx : ρ.lookup x = some (rawR a)) (hl : bs.length = iss.length) (hm : ∀ p ∈ memN a bs iss, p ∈ μ) :
    Rc c (fun b => X b ∧ b ∉ a :: bs) env ((x, RR iss) :: ρ) [] s := by
  refine ⟨R.ok, R.base, fun b h => R.live b h.1, fun n' b h => ?_, R.apart, fun y d h => ?_, fun b es h => (nomatch h)⟩
  · obtain ⟨h1, h2, ov, h3⟩ := R.cel n' b h
    refine ⟨⟨h1, fun q => ?_⟩, h2, ov, h3⟩
    obtain ⟨ds, q⟩ := memN_key hl b q
    obtain ⟨_, vs, ⟨o, e, hc, _, n, hd⟩, _⟩ := R.mem b ds (hm _ q)
    exact IsList_ne_Cell ⟨o, e, hc, n, hd⟩ h3 rfl
  · rw [List.lookup_cons] at h
    cases hb : y == x with
    | true =>
      rw [hb] at h
      cases h
      obtain ⟨v, hv, r⟩ := R.vars x _ hx
      cases r
      rw [beq_iff_eq.mp hb]
      exact ⟨_, hv, rd_own hl (fun p hp => (R.mem p.1 p.2 (hm p hp)).2) fun b m q => q.2 m⟩
    | false =>
      rw [hb] at h
      obtain ⟨v, hv, r⟩ := R.vars y d h
      exact ⟨v, hv, r.weak fun _ q => q.1⟩
theorem ev_lendN {x : Str} {a : Addr} {bs : List Addr} {iss : List (List Int)} {e : Expr} {d : D} (hx : ρ.lookup x = some (rawR a)) (hl : bs.length = iss.length) (hm : ∀ p ∈ memN a bs iss, p ∈ μ) (he : Ev c k env ((x, RR iss) :: ρ) [] e d) (hs : scalar d = true := by rfl) : Ev c k env ρ μ e d := fun X A s hA R E =>
  wpAny_mono (he _ A s hA (R.lendN hx hl hm) E) (fun _ _ q => ⟨q.1, q.2.scalar hs⟩) fun _ _ e => e
theorem tr_lendN {x : Str} {a : Addr} {bs : List Addr} {iss : List (List Int)} {e : Expr} {b : Bool} (hx : ρ.lookup x = some (rawR a)) (hl : bs.length = iss.length) (hm : ∀ p ∈ memN a bs iss, p ∈ μ) (he : Tr c k env ((x, RR iss) :: ρ) [] e b) : Tr c k env ρ μ e b := fun X A s E hA R =>
  he _ A s E hA (R.lendN hx hl hm)

/-- it changes no more -/
theorem St.freezeN {X₀ : Addr → Prop} {s : Shared} {x : Str} {a : Addr} {bs : List Addr} {iss : List (List Int)} (S : St c X₀ env ρ (memN a bs iss) s) (hx : ρ.lookup x = some (rawR a)) (hl : bs.length = iss.length) : St c X₀ env ((x, RR iss) :: ρ) [] s := by
  have hM : ∀ b, Mut env [] b → Mut env (memN a bs iss) b := fun b m => by
    rcases m with m | m | ⟨_, m⟩
    · exact .inl m
    · exact .inr (.inl m)
    · cases m
  have hX : ∀ b, XOf X₀ env [] b → XOf X₀ env (memN a bs iss) b := fun b h => h.imp id (hM b)
  refine { S with own := fun b m => S.own b (hM b m), vars := fun y d h => ?_, mem := fun b es m => (nomatch m), nodup := .nil, memX := fun b es m => (nomatch m) }
  rw [List.lookup_cons] at h
  cases hb : y == x with
  | true =>
    rw [hb] at h
    cases h
    obtain ⟨v, hv, r⟩ := S.vars x _ hx
    cases r
    rw [beq_iff_eq.mp hb]
    refine ⟨_, hv, rd_own hl (fun p hp => S.mem p.1 p.2 hp) fun b m q => ?_⟩
    obtain ⟨ds, hd⟩ := memN_key hl b m
    obtain ⟨vs, ⟨o, e, hc, _, n, hdt⟩, _⟩ := S.mem b ds hd
    rcases q with q | q | ⟨n', q⟩ | ⟨_, q⟩
    · exact S.memX b ds hd q
    · obtain ⟨m', hns⟩ := S.ns
      exact IsList_ne_Ns ⟨o, e, hc, n, hdt⟩ hns q
    · obtain ⟨ov, hcl⟩ := S.cel n' b q
      exact IsList_ne_Cell ⟨o, e, hc, n, hdt⟩ hcl rfl
    · cases q
  | false =>
    rw [hb] at h
    obtain ⟨v, hv, r⟩ := S.vars y d h
    exact ⟨v, hv, r.weak hX⟩
end
end Mine
end

/-! # N7 -/
section
set_option autoImplicit false
set_option linter.unusedVariables false
namespace Mine
open PySem PySem.Calls PyProof.Rows

/-! # changes of own lists that hold own lists -/
theorem RdAll.takeN {X : Addr → Prop} {h : Heap} : ∀ {vs : List Value} {ds : List D} (k : Nat), RdAll X h vs ds → RdAll X h (vs.take k) (ds.take k)
  | _, _, 0, _ => by simpa using RdAll.nil
  | _, _, k + 1, .nil => by simpa using RdAll.nil
  | _, _, k + 1, .cons a r => by simpa using RdAll.cons a (RdAll.takeN k r)
theorem RdAll.dropN {X : Addr → Prop} {h : Heap} : ∀ {vs : List Value} {ds : List D} (k : Nat), RdAll X h vs ds → RdAll X h (vs.drop k) (ds.drop k)
  | _, _, 0, r => by simpa using r
  | _, _, k + 1, .nil => by simpa using RdAll.nil
  | _, _, k + 1, .cons a r => by simpa using RdAll.dropN k r
def insL {α : Type} (l : List α) (k : Nat) (y : α) : List α := l.take k ++ y :: l.drop k
theorem rd_ins {X X' : Addr → Prop} {h h' : Heap} {vs : List Value} {ds : List D} {u : Value} {d : D} (r : RdAll X h vs ds) (hsc : ∀ d ∈ ds, scalar d = true) (x : Rd X' h' u d) (k : Nat) : RdAll X' h' (insL vs k u) (insL ds k d) := by
  have r' : RdAll X' h' vs ds := r.scalar hsc
  exact (r'.takeN k).append (.cons x (r'.dropN k))
section
variable {prog : Program} {w : World} {A : Around} {E : Value → Shared → Prop} {s : Shared}
theorem call_insert {l : Addr} {its : List Value} {x : Int} {u : Tok} {y : Value} {Q : Value → Shared → Prop} (hl : PlainL s.heap l its.toArray) (hf : Builtin.List.listFitsIndex x = true) (h0 : 0 ≤ x) (h1 : x.toNat ≤ its.length) (hsz : its.length ≤ sizeLine)
    (hQ : ∀ h', PlainL h' l (insL its x.toNat y).toArray → Heap.SameBut l s.heap h' → Q .none { s with heap := h' }) : wpAny (model prog w) A (call (.builtin "list.insert") [.ref l, .int x u, y]) Q E s := by
  obtain ⟨o, n, ho, hc, hdn, hd⟩ := id hl
  have e : ∀ xs : Array Value, xs = its.toArray → ((xs.extract 0 (if x < 0 then (x + (xs.size : Int)).toNat else min x.toNat xs.size)).push y ++ xs.extract (if x < 0 then (x + (xs.size : Int)).toNat else min x.toNat xs.size)) = (insL its x.toNat y).toArray := fun xs q => by
    subst q
    rw [if_neg (by omega), List.size_toArray, Nat.min_eq_left h1]
    exact PySem.W.kl_ins_eq its x.toNat y
  refine wpAny_call_entry PySem.F.slot_list_insert hl.isList.typeIs PySem.F.entry_list_insert ?_ (PySem.F.args_list_insert_3 _ _ _)
  have hz' : ((fun xs : Array Value => have k := if x < 0 then (x + ((xs.size : Nat) : Int)).toNat else min x.toNat xs.size; (xs.extract 0 k).push y ++ xs.extract k) its.toArray).size ≤ sizeLine + 1 := by
    show ((its.toArray.extract 0 (if x < 0 then (x + (its.toArray.size : Int)).toNat else min x.toNat its.toArray.size)).push y ++ its.toArray.extract (if x < 0 then (x + (its.toArray.size : Int)).toNat else min x.toNat its.toArray.size)).size ≤ _
    rw [e _ rfl, List.size_toArray]; unfold insL; rw [List.length_append, List.length_cons, List.length_take, List.length_drop]; omega
  obtain ⟨hp, g, d, tk, os⟩ := s
  have hc0 : ¬ (!Builtin.List.listFitsIndex x) = true := by simp [hf]
  obtain ⟨oc, od, odt, osl⟩ := o
  dsimp only at hc hdn hd
  subst hc hdn hd
  obtain ⟨n', hd'⟩ := Obj.data_mapSeq (o := { cls := .type "list", dict := none, data := .seq its.toArray n, slots := osl }) rfl (fun xs => have k := if x < 0 then (x + ((xs.size : Nat) : Int)).toNat else min x.toNat xs.size; (xs.extract 0 k).push y ++ xs.extract k)
  wp_walk using (wpAny_updateSeq ho rfl (hz := by rw [List.size_toArray]; exact hsz) (_hz' := hz'))
  refine ⟨_, rfl, hQ _ ?_ (Heap.SameBut.update ..)⟩
  refine ⟨_, n', Heap.get?_update_self _ ho (Obj.isFreed_of_seq hd'), rfl, rfl, hd'.trans ?_⟩
  exact congrArg (fun z => Data.seq z n') (e _ rfl)
end

section
variable {c : Cx} {k : Nat} {env : Env} {ρ : Vars} {μ : Mem}
theorem xof_cons {X₀ : Addr → Prop} {a : Addr} {ds : List D} {b : Addr} (h : XOf X₀ env ((a, ds) :: μ) b) : XOf X₀ env μ b ∨ b = a := by
  rcases h with y | y | y | ⟨es, y⟩
  · exact .inl (.inl y)
  · exact .inl (.inr (.inl y))
  · exact .inl (.inr (.inr (.inl y)))
  · rcases List.mem_cons.mp y with q | q
    · cases q; exact .inr rfl
    · exact .inl (.inr (.inr (.inr ⟨es, q⟩)))

/-- x.append(e), where e gives a list of its own: it may change from here -/
theorem ex_appendF {Q : Out → Vars → Mem → Prop} {x : Str} {px apos cpos pos : Pos} {e : Expr} {a : Addr} {ds es : List D} (hx : ρ.lookup x = some (.raw (.ref a))) (hm : (a, ds) ∈ μ) (he : EvF c k env ρ μ e es) (hlen : ds.length ≤ 16777216)
    (h : ∀ b, (∀ fs, (b, fs) ∉ μ) → Q .next ρ (setM ((b, es) :: μ) a (ds ++ [rawR b]))) (hd : (x == ("__debug__" : Str)) = false := by decide) (hst : notStar e = true := by rfl)
    (hline : (apos.endLine == cpos.line) = true := by rfl) (hi : interactive env = false := by rfl) (hs : swapsWith (.Call (.Attribute (.Name x px) "append" apos) [e] [] cpos) none pos.line env = pure false := by rfl) :
    Ex1 c k env ρ μ (.Expr (.Call (.Attribute (.Name x px) "append" apos) [e] [] cpos) pos) Q := by
  intro X₀ A s E hA S
  have hse : backTo cpos (starEach [e] env) = [(false, eval e env)] := by rw [starEach_cons hst]; rfl
  refine wpAny_Expr_any (wpAny_Call_append rfl (by rw [hse]; rfl) hline hse (gives_bind (ev_name (k := k) hx hd _ A s hA S.rc) fun v s₁ k₁ r₁ => ?_)) hi hs
  cases r₁
  have S₁ := S.kp k₁
  obtain ⟨vs, hl, hr⟩ := S₁.mem a ds hm
  refine ⟨a, vs, rfl, hl.plain, wpAny_mono (he _ A s₁ E hA S₁.rc) (fun u s₂ q => ?_) fun _ _ e => e⟩
  obtain ⟨k₂, b, us, rfl, hn, hlb, hrb⟩ := q
  have S₂ : St c X₀ env ρ ((b, es) :: μ) s₂ := S₁.addM k₂ hn hlb (hrb.weak fun b hb => xof_cons hb)
  have hb : ∀ fs, (b, fs) ∉ μ := fun fs m => let ⟨o, e⟩ := S₁.live' (.inr (.inr ⟨fs, m⟩)); no1 hn e
  have hm₂ : (a, ds) ∈ (b, es) :: μ := .tail _ hm
  obtain ⟨vs₂, hl₂, hr₂⟩ := S₂.mem a ds hm₂
  have hv : vs₂.size = ds.length := by have := hr₂.length; simpa using this
  obtain rfl : vs = vs₂ := by
    obtain ⟨o, e, _, _, n, hd⟩ := hl
    obtain ⟨o2, e2, _, _, n2, hd2⟩ := hl₂
    have := k₂.sub a o e
    rw [this] at e2; cases e2; rw [hd] at hd2; cases hd2; rfl
  refine list_append_plainL (hsz := by rw [hv, sizeLine_eq]; exact hlen) hl₂.plain fun h' hl' hs' => ?_
  have hX : XOf X₀ env ((b, es) :: μ) a := .inr (.inr (.inr ⟨ds, hm₂⟩))
  have hr' : RdAll (XOf X₀ env ((b, es) :: μ)) h' (vs.push (.ref b)).toList (ds ++ [rawR b]) := by
    rw [Array.toList_push]
    exact (hr₂.but hX hs').append (.cons (.raw _) .nil)
  exact ⟨.next, ρ, _, trivial, S₂.setM (tk := s₂.toks) hm₂ hs' (PL.of hl') hr', ((Go.of_kp k₁).trans (Go.addM k₂ hn)).trans (Go.setM (tk := s₂.toks) hm₂ hs' (PL.of hl')), h b hb⟩

/-- x.insert(i, e) -/
theorem ex_insert {Q : Out → Vars → Mem → Prop} {x : Str} {px apos cpos pos : Pos} {i e : Expr} {a : Addr} {ds : List D} {d : D} {n : Int} {pl : Sem Bool} (hx : ρ.lookup x = some (.raw (.ref a))) (hm : (a, ds) ∈ μ) (hi : Ev c k env ρ μ i (.int n)) (he : Ev c k env ρ μ e d) (hsc : scalar d = true) (hsc' : ∀ d ∈ ds, scalar d = true)
    (h0 : 0 ≤ n) (h1 : n.toNat ≤ ds.length) (hlen : ds.length ≤ 16777216) (h : Q .next ρ (setM μ a (insL ds n.toNat d))) (hd : (x == ("__debug__" : Str)) = false := by decide) (hs1 : notStar i = true := by rfl) (hs2 : notStar e = true := by rfl)
    (hev : eval (.Call (.Attribute (.Name x px) "insert" apos) [i, e] [] cpos) env = (do
      let ov ← eval (.Name x px) env
      standAt apos.atName
      let (f, first) ← holding [ov] (getMethod ov "insert" pl)
      callWith cpos f first (backTo cpos (starEach [i, e] env)) (backToKw cpos (keywordEach [] env))) := by rfl)
    (hin : interactive env = false := by rfl) (hs : swapsWith (.Call (.Attribute (.Name x px) "insert" apos) [i, e] [] cpos) none pos.line env = pure false := by rfl) :
    Ex1 c k env ρ μ (.Expr (.Call (.Attribute (.Name x px) "insert" apos) [i, e] [] cpos) pos) Q := by
  intro X₀ A s E hA S
  refine wpAny_Expr_any (PySem.W.methodCall_KW (pl := pl) (gives_bind (ev_name (k := k) hx hd _ A s hA S.rc) fun v s₁ k₁ r₁ => ?_) hev) hin hs
  cases r₁
  have S₁ := S.kp k₁
  obtain ⟨vs, hl, hr⟩ := S₁.mem a ds hm
  refine getMethod_builtin hl.isList.typeIs PySem.F.plainAttrs_list PySem.F.slot_list_insert PySem.F.type_list_insert (fun b q => by cases q; obtain ⟨o, e, _, hdn, _⟩ := hl; exact ⟨o, e, hdn⟩) ?_
  show wpAny _ _ (callWith cpos (.builtin "list.insert") [.ref a] (backTo cpos (starEach [i, e] env)) []) _ _ _
  refine callWith_first (first := [.ref a]) S₁.rc hA (.cons hi (.cons he .nil hs2) hs1) (fun s' k' => ⟨.machine, .inr rfl, fun Q' hq => wpAny_pure hq⟩) (by intro h; cases h) fun us s₂ k₂ r₂ => ?_
  obtain ⟨u1, us, rfl, r1, r₂⟩ := rdAll_cons r₂
  obtain ⟨u2, us, rfl, r2, r₂⟩ := rdAll_cons r₂
  obtain rfl := rdAll_nil r₂
  obtain ⟨t, rfl⟩ := rd_int r1
  have S₂ := S₁.kp k₂
  have hl₂ : PL s₂.heap a vs := let ⟨o, e, q⟩ := hl; ⟨o, k₂.sub a o e, q⟩
  obtain ⟨l⟩ := vs
  have hv : l.length = ds.length := hr.length
  refine call_insert hl₂.plain (by unfold Builtin.List.listFitsIndex; simp; omega) h0 (by rw [hv]; exact h1) (by rw [hv, sizeLine_eq]; exact hlen) fun h' hl' hs' => ?_
  have hr' : RdAll (XOf X₀ env μ) h' (insL l n.toNat u2) (insL ds n.toNat d) := rd_ins hr hsc' (r2.scalar hsc) n.toNat
  exact ⟨.next, ρ, _, trivial, S₂.setM (tk := s₂.toks) hm hs' (PL.of hl') hr', (Go.of_kp (k₁.trans k₂)).trans (Go.setM (tk := s₂.toks) hm hs' (PL.of hl')), h⟩

/-! ## a function that gives a list of its own, of lists of their own -/
def FnNN (c : Cx) (k : Nat) (f : Addr) (ds : List D) (iss : List (List Int)) : Prop :=
  ∀ X A s vs E, Room k A → Sub c.base s.heap → (∀ a, X a → ∃ o, s.heap.get? a = some o) → RdAll X s.heap vs ds →
    wpAny (model c.prog c.w) A (call (.ref f) vs) (fun v s' => Kp s s' ∧ ∃ a bs, v = .ref a ∧ New2 s s' a bs iss) E s
theorem evNN_call {x : Str} {px pos : Pos} {f : Addr} {st : Stmt} {args : List Expr} {ds : List D} {iss : List (List Int)} (hg : c.mg x = some (.ref f)) (hf : FnAt c f st) (ha : EvAll c k env ρ μ args ds) (hF : FnNN c k f ds iss) (hne : args ≠ [] := by intro h; cases h)
    (hx : env.kindOf x = some .globalImplicit := by rfl) (hd : (x == ("__debug__" : Str)) = false := by decide) : EvNN c k env ρ μ (.Call (.Name x px) args [] pos) iss := by
  intro X A s E hA R
  refine Call_ (name_global R hx hg ?_ hd)
  obtain ⟨o, nm, qn, doc, pm, an, cdv, ct, ho, hd', hcd⟩ := hf
  refine callWith_plain R hA ha (fun s' k' => ⟨.frame, .inl rfl, fun Q' hq => ?_⟩) hne fun vs s₁ k₁ r₁ => ?_
  · unfold keeperOf
    refine wpAny_bind (wpAny_load (k'.sub _ _ (R.base _ _ ho)) ?_)
    rw [hd']; exact wpAny_pure hq
  · have R₁ := R.keep k₁.sub
    refine wpAny_mono (hF X A s₁ vs E hA R₁.base R₁.live r₁) (fun v s' q => ?_) fun _ _ e => e
    obtain ⟨k₂, a, bs, rfl, N⟩ := q
    exact ⟨k₁.trans k₂, a, bs, rfl, fun b hb => none_of fun o e => no1 (N.new b hb) (k₁.sub b o e), N.nodup, N.outer, N.inner⟩
theorem fnNN_of {f : Addr} {st : Stmt} {ds : List D} {iss : List (List Int)} (hf : FnAt c f st) (hb : Binds st ds.length)
    (h : ∀ qn cdv L, Ex c k (fenv st qn cdv L f) ((namesOf st).zip ds).reverse [] (bodyOf st) (fun o _ μ' => ∃ a bs, o = .ret (rawR a) ∧ bs.length = iss.length ∧ (a :: bs).Nodup ∧ ∀ p ∈ memN a bs iss, p ∈ μ')) (ok : fnOk st = true := by rfl) : FnNN c (k + 1) f ds iss := by
  intro X A s vs E hA hbase hlive hvs
  refine wpAny_call (fn_enter hf hb ok hA hbase hlive hvs fun qn cdv L s₁ S₁ k₁ newM hA' => ?_)
  refine wpAny_mono (h qn cdv L X _ s₁ _ hA' S₁) (fun fl s₂ p => ?_) fun _ _ e => e
  obtain ⟨o', ρ', μ', y, S₂, g, a, bs, rfl, hl, hn, hm⟩ := p
  cases fl <;> first | exact y.elim | skip
  have y : Rd _ _ _ (rawR a) := y
  cases y
  refine ⟨g.kp_of k₁ newM, a, bs, rfl, fun b hb => none_of fun o e => ?_, hn, ?_, all2_of_mem hl fun b is m => S₂.mem b _ (hm _ (.tail _ (List.mem_map.mpr ⟨_, m, rfl⟩)))⟩
  · obtain ⟨ds, hd⟩ := memN_key hl b hb
    rcases g.grow b ds (hm _ hd) with ⟨_, q⟩ | q
    · cases q
    · exact no1 q (k₁.sub b o e)
  · obtain ⟨vs, h1, h2⟩ := S₂.mem a _ (hm _ (.head _))
    have : vs = (bs.map Value.ref).toArray := by rw [← raws_vals h2]
    exact this ▸ h1
end
end Mine
end

/-! # N8 -/
section
set_option autoImplicit false
set_option linter.unusedVariables false
namespace Mine
open PySem PySem.Calls PyProof.Rows

section
variable {c : Cx} {k : Nat} {env : Env} {ρ : Vars} {μ : Mem} {elt iter : Expr} {x : Str} {px : Pos} {ifs : List Expr} {scope : Scope} {pos : Pos} {ds : List D} {p : D → Bool}

/-- return of a list of its own -/
theorem ex_returnF {Q : Out → Vars → Mem → Prop} {e : Expr} {rpos : Pos} {es : List D} (he : EvF c k env ρ μ e es) (h : ∀ a, Q (.ret (rawR a)) ρ ((a, es) :: μ)) : Ex1 c k env ρ μ (.Return (some e) rpos) Q := by
  intro X₀ A s E hA S
  refine wpAny_Return_some (wpAny_mono (he _ A s E hA S.rc) (fun v s₁ q => ?_) fun _ _ e => e)
  obtain ⟨k₁, a, vs, rfl, hn, hl, hr⟩ := q
  exact ⟨.ret _, ρ, _, .raw _, S.addM k₁ hn hl (hr.weak fun b hb => xof_cons hb), Go.addM k₁ hn, h a⟩

/-- more lists of the call's own, new, and what is new and no one's -/
theorem St.addXMs {X₀ : Addr → Prop} {s s' : Shared} {new : Mem} {wr : List Addr} (S : St c X₀ env ρ μ s) (k : Kp s s') (n : ∀ p ∈ new, s.heap.get? p.1 = none) (nd : (new.map (·.1)).Nodup) (hl : ∀ p ∈ new, ML (XOf (fun a => X₀ a ∨ a ∈ wr) env (new ++ μ)) s'.heap p.1 p.2)
    (nw : ∀ b ∈ wr, s.heap.get? b = none) (lw : ∀ b ∈ wr, ∃ o, s'.heap.get? b = some o) (dw : ∀ p ∈ new, p.1 ∉ wr) : St c (fun a => X₀ a ∨ a ∈ wr) env ρ (new ++ μ) s' := by
  have S' := S.addX k nw lw
  have k' := k.sub
  have hM : ∀ b, Mut env (new ++ μ) b → (∃ p ∈ new, b = p.1) ∨ Mut env μ b := fun b m => by
    rcases m with m | m | ⟨es, m⟩
    · exact .inr (.inl m)
    · exact .inr (.inr (.inl m))
    · rcases List.mem_append.mp m with q | q
      · exact .inl ⟨_, q, rfl⟩
      · exact .inr (.inr (.inr ⟨es, q⟩))
  have hx : ∀ b o, ¬ XOf X₀ env μ b → s.heap.get? b = some o → ¬ XOf (fun a => X₀ a ∨ a ∈ wr) env (new ++ μ) b ∧ s'.heap.get? b = some o := fun b o q e => by
    refine ⟨?_, k' b o e⟩
    rintro ((y | y) | y)
    · exact q (.inl y)
    · exact no1 (nw b y) e
    · rcases hM b y with ⟨p, hp, y⟩ | y
      · exact no1 (n p hp) (y ▸ e)
      · exact q (.inr y)
  refine { S' with own := fun b m => ?_, vars := fun x d e => ?_, mem := fun b es m => ?_, nodup := ?_, memX := fun b es m q => ?_ }
  · rcases hM b m with ⟨p, hp, rfl⟩ | q
    · exact none_of fun o e => no1 (n p hp) (S.base _ o e)
    · exact S.own b q
  · obtain ⟨v, y, r⟩ := S.vars x d e; exact ⟨v, y.keep k', r.mono hx⟩
  · rcases List.mem_append.mp m with q | q
    · exact hl _ q
    · obtain ⟨us, ⟨o, e, y⟩, r⟩ := S.mem b es q; exact ⟨us, ⟨o, k' b o e, y⟩, r.mono hx⟩
  · rw [List.map_append]
    refine List.nodup_append.mpr ⟨nd, S.nodup, fun x hx y hy q => ?_⟩
    obtain ⟨p, hp, rfl⟩ := List.mem_map.mp hx
    obtain ⟨⟨b, es⟩, hm, rfl⟩ := List.mem_map.mp hy
    obtain ⟨o, e⟩ := S.live' (.inr (.inr ⟨es, hm⟩))
    exact no1 (n p hp) (show s.heap.get? p.1 = some o from (show p.1 = b from q) ▸ e)
  · rcases List.mem_append.mp m with z | z
    · rcases q with q | q
      · obtain ⟨o, e⟩ := S.live _ q; exact no1 (n _ z) e
      · exact dw _ z q
    · exact S'.memX b es z q

/-- x = a comprehension of lists of their own, on one line -/
theorem ex_assign_compN {Q : Out → Vars → Mem → Prop} {y : Str} {py spos : Pos} {g : D → List Int} (src : Src c k env ρ μ iter ds) (tests : ∀ C cl d, d ∈ ds → Tests c k (cenvOf scope env C cl) ((x, d) :: capt scope ρ) ifs (p d))
    (elts : ∀ C cl d, d ∈ ds → p d = true → EvF c k (cenvOf scope env C cl) ((x, d) :: capt scope ρ) [] elt ((g d).map .int)) (hlen : ds.length ≤ 16777216)
    (h : ∀ a bs, bs.length = ((ds.filter p).map g).length → (a :: bs).Nodup → Q .next ((y, rawR a) :: ρ) (memN a bs ((ds.filter p).map g) ++ μ))
    (hsw : swapsWith (.ListComp elt [⟨.Name x px, iter, ifs, 0⟩] scope pos) (some (.Name y py)) spos.line env = pure true := by rfl) (hy : stor env y = true := by rfl)
    (ok : compOk scope env x = true := by rfl) (hs : ∀ x, foldedSetIterable iter env x = pure x := by intro _; rfl) :
    Ex1 c k env ρ μ (.Assign [.Name y py] (.ListComp elt [⟨.Name x px, iter, ifs, 0⟩] scope pos) spos) Q := by
  intro X₀ A s E hA S
  have R := S.rc
  have ok' := CompOk.of ok
  obtain ⟨cl, hclos, hcl1, hcl2⟩ := closureFor_free R.ok.has ok'.free
  rw [exec_Assign_Name_used _ _ _ _ hsw]
  refine wpAny_bind (wpAny_standAt (wpAny_bind ?_))
  show wpAny _ A (do let _ ← comprehension (.ListComp elt [⟨.Name x px, iter, ifs, 0⟩] scope pos) scope env _ (newList []) false (eval iter env) (some (assign (.Name y py) env))) _ _ s
  refine wpAny_bind (wpAny_mono (wpAny_comprehension_free (use := some (assign (.Name y py) env)) (Q := fun _ s' => Post c X₀ env μ s Q .next s') rfl hs hclos ok'.kind ok'.names
    (wpAny_mono (src _ A s E hA R) (fun xv s₁ h₁ => wpAny_mono h₁ (fun it s₂ h₂ => ?_) fun _ _ e => e) fun _ _ e => e)) (fun _ s' hq => wpAny_pure (wpAny_pure hq)) fun _ _ e => e)
  obtain ⟨I, fp, wr, P, W, rfl, O⟩ := h₂
  refine compJ_core (RR := fun acc C => compPost (model c.prog c.w) A E (some (assign (.Name y py) env)) (fun _ s' => Post c X₀ env μ s Q .next s') acc C) jokN hA R O ok' hlen hcl1 hcl2 tests (fun C cl d h hp => evJN (elts C cl d h hp)) ?_
  rintro D C s' ⟨hD, hCs, hDC, ⟨m, hn⟩, hk, Z, ys, hl, hj, hX, hZ, hZC⟩
  obtain ⟨bs, j1, j2, j3, j4⟩ := hj
  have hys : ys = (bs.map Value.ref).toArray := by rw [← j1]
  subst hys
  have N : New2 s s' D bs ((ds.filter p).map g) := ⟨fun b hb => (List.mem_cons.mp hb).elim (fun q => q ▸ hD) fun q => (j3 b q).2, List.nodup_cons.mpr ⟨fun m => (j3 D m).1 hZ, j2⟩, hl, j4⟩
  have hCb : C ∉ D :: bs := fun q => (List.mem_cons.mp q).elim (fun q => hDC q.symm) fun q => (j3 C q).1 hZC
  show wpAny _ A (assign (.Name y py) env (.ref D)) _ _ _
  have S' : St c (fun a => X₀ a ∨ a ∈ [C]) env ρ (memN D bs ((ds.filter p).map g) ++ μ) s' := S.addXMs hk N.fresh N.nd N.ml (fun b hb => List.mem_singleton.mp hb ▸ hCs) (fun b hb => List.mem_singleton.mp hb ▸ (let ⟨o, _, _, e, _⟩ := hn; ⟨o, e⟩)) (fun q hq z => by
    rw [List.mem_singleton] at z
    rcases List.mem_cons.mp hq with rfl | hq
    · exact hDC z
    · exact hCb (.tail _ (z ▸ (mem_memI (ds := q.2) hq).1)))
  have hCM : ¬ Mut env (memN D bs ((ds.filter p).map g) ++ μ) C := fun q => by
    rcases q with q | ⟨n', q⟩ | ⟨es, q⟩
    · obtain ⟨o, e⟩ := S.live' (.inl q); exact no1 hCs e
    · obtain ⟨o, e⟩ := S.live' (.inr (.inl ⟨n', q⟩)); exact no1 hCs e
    · exact S'.memX C es q (.inr (List.mem_singleton.mpr rfl))
  refine wpAny_assign_Name (st_store S' hy (.raw _) fun s₃ S₃ g₃ => ?_)
  refine ⟨m, ?_, fun h' hs' => ?_⟩
  · obtain ⟨o, es, ep, e, r⟩ := hn
    exact ⟨o, es, ep, g₃.keep C o hCM e, r⟩
  · have kk : ∀ b o, b ∉ [C] → s₃.heap.get? b = some o → ({ s₃ with heap := h' } : Shared).heap.get? b = some o := fun b o w e => hs'.extBut b o (fun q => w (List.mem_singleton.mpr q)) e
    have sing : ∀ {P : Addr → Prop}, P C → ∀ b ∈ [C], P b := fun hp b hb => List.mem_singleton.mp hb ▸ hp
    refine ⟨.next, _, _, trivial, S₃.outX kk (sing fun q => let ⟨o, e⟩ := S.live C q; no1 hCs e) (sing hCM) (sing (none_of fun o e => no1 hCs (S.base C o e))), ((Go.addMs hk N.fresh).trans g₃).done (wr := [C]) (sing hCs) (tk := s₃.toks) kk, h D bs N.len N.nodup⟩

theorem ev_min {x : Str} {px : Pos} {e f : Expr} {a b : Int} (hg : c.mg x = none) (hb : bootBuiltins x = some (.builtin "min")) (h1 : Ev c k env ρ μ e (.int a)) (h2 : Ev c k env ρ μ f (.int b)) (hs1 : notStar e = true := by rfl) (hs2 : notStar f = true := by rfl) (hn : x ≠ "__name__" := by decide)
    (hx : env.kindOf x = some .globalImplicit := by rfl) (hd : (x == ("__debug__" : Str)) = false := by decide) : Ev c k env ρ μ (.Call (.Name x px) [e, f] [] pos) (.int (min a b)) :=
  ev_callB hg hb (.cons h1 (.cons h2 .nil hs2) hs1) (fun X A s vs hA _ r E => by
    obtain ⟨v1, us, rfl, r1, r⟩ := rdAll_cons r
    obtain ⟨v2, us, rfl, r2, r⟩ := rdAll_cons r
    obtain rfl := rdAll_nil r
    obtain ⟨t, rfl⟩ := rd_int r1
    obtain ⟨t2, rfl⟩ := rd_int r2
    refine min_two_ints hA.handled fun h' tk k => ⟨Kp.heap s h' tk k, ?_⟩
    split
    · rw [Int.min_eq_right (by omega)]; exact .int _ _
    · rw [Int.min_eq_left (by omega)]; exact .int _ _) hn (by intro h; cases h) hx hd

theorem rd_str {X : Addr → Prop} {h : Heap} {v : Value} {i : Str} (r : Rd X h v (.str i)) : ∃ t, v = .str i t := by cases r; exact ⟨_, rfl⟩
theorem cmp_eqS {X : Addr → Prop} {A : Around} {s : Shared} {v u : Value} {a b : Str} (h1 : Rd X s.heap v (.str a)) (h2 : Rd X s.heap u (.str b)) : Gives c X A (compareOp .Eq v u) (.bool (a == b)) s := fun E => by
  obtain ⟨_, rfl⟩ := rd_str h1; obtain ⟨_, rfl⟩ := rd_str h2; exact PyProof.Rows.eq_str ⟨Kp.refl s, .bool _⟩
theorem cmp_neS {X : Addr → Prop} {A : Around} {s : Shared} {v u : Value} {a b : Str} (h1 : Rd X s.heap v (.str a)) (h2 : Rd X s.heap u (.str b)) : Gives c X A (compareOp .NotEq v u) (.bool (a != b)) s := fun E => by
  obtain ⟨_, rfl⟩ := rd_str h1; obtain ⟨_, rfl⟩ := rd_str h2; exact PyProof.Rows.ne_str ⟨Kp.refl s, .bool _⟩
end
end Mine
end

/-! # N9 -/
section
set_option autoImplicit false
set_option linter.unusedVariables false
namespace Mine
open PySem PySem.Calls PyProof.Rows PySem.W

/-! # exceptions -/
def frs (l : List Env) : List Addr := l.filterMap (·.frame)
theorem mem_frs {env : Env} {l : List Env} {b : Addr} (h : b ∈ frs (env :: l)) : env.frame = some b ∨ b ∈ frs l := by
  obtain ⟨e, he, hf⟩ := List.mem_filterMap.mp h
  rcases List.mem_cons.mp he with rfl | he
  · exact .inl hf
  · exact .inr (List.mem_filterMap.mpr ⟨e, he, hf⟩)
theorem frs_tail {env : Env} {l : List Env} {b : Addr} (h : b ∈ frs l) : b ∈ frs (env :: l) := by
  obtain ⟨e, he, hf⟩ := List.mem_filterMap.mp h
  exact List.mem_filterMap.mpr ⟨e, .tail _ he, hf⟩
/-- the frames of the calls that run -/
def FF (l : List Env) (h : Heap) : Prop := ∀ env ∈ l, env.scope.kind ≠ .module ∧ ∃ L o, env.frame = some L ∧ h.get? L = some o ∧ ∀ vs, o.data ≠ .fields vs
theorem FF.keep {l : List Env} {h h' : Heap} (x : FF l h) (k : ∀ b ∈ frs l, ∀ o, h.get? b = some o → h'.get? b = some o) : FF l h' := fun env he => by
  obtain ⟨h1, L, o, h2, h3, h4⟩ := x env he
  exact ⟨h1, L, o, h2, k L (List.mem_filterMap.mpr ⟨env, he, h2⟩) o h3, h4⟩
theorem FF.live {l : List Env} {h : Heap} (x : FF l h) {b : Addr} (m : b ∈ frs l) : ∃ o, h.get? b = some o := by
  obtain ⟨env, he, hf⟩ := List.mem_filterMap.mp m
  obtain ⟨_, L, o, h2, h3, _⟩ := x env he
  rw [hf] at h2; cases h2; exact ⟨o, h3⟩
theorem FF.hid {h : Heap} {as : List Addr} : ∀ {l : List Env}, FF l h → (∀ b ∈ frs l, b ∈ as) → h.FunFrames (hideAll h as) l
  | [], _, _ => trivial
  | env :: l, x, hin => by
    obtain ⟨h1, L, o, h2, h3, h4⟩ := x env (.head _)
    exact ⟨h1, ⟨L, o, h2, hideAll_none _ (hin L (List.mem_filterMap.mpr ⟨env, .head _, h2⟩)), h3, h4⟩, FF.hid (fun e he => x e (.tail _ he)) fun b m => hin b (frs_tail m)⟩

/-- an exception flies into the frames l; xs: what has changed besides -/
structure Flown (xs : List Addr) (l : List Env) (s s' : Shared) (e C : Addr) : Prop where
  fly : ∃ B a0, (∀ b o, b ∉ xs → b ∉ frs l → s.heap.get? b = some o → B.get? b = some o) ∧ Heap.FlyingW B l e (.ref C) a0 s'.heap
  up : ∀ b ∈ frs l, ∀ o, s.heap.get? b = some o → (∀ vs, o.data ≠ .fields vs) → ∃ sl, s'.heap.get? b = some { o with slots := sl }
  same : Same s s'
theorem Flown.keep {xs : List Addr} {l : List Env} {s s' : Shared} {e C : Addr} (F : Flown xs l s s' e C) (b : Addr) (o : Obj) (h1 : b ∉ xs) (h2 : b ∉ frs l) (e' : s.heap.get? b = some o) : s'.heap.get? b = some o := by
  obtain ⟨B, a0, hB, hf⟩ := F.fly
  exact hf.1 b o (hB b o h1 h2 e')
theorem Flown.of_kp {xs ys : List Addr} {l : List Env} {s s₁ s' : Shared} {e C : Addr} (F : Flown ys l s₁ s' e C) (k : ∀ b o, b ∉ xs → s.heap.get? b = some o → s₁.heap.get? b = some o) (hs : Same s s₁) (hy : ∀ b o, b ∉ xs → s.heap.get? b = some o → b ∉ ys) (hx : ∀ b ∈ xs, b ∉ frs l) : Flown xs l s s' e C := by
  obtain ⟨B, a0, hB, hf⟩ := F.fly
  exact ⟨⟨B, a0, fun b o h1 h2 e => hB b o (hy b o h1 e) h2 (k b o h1 e), hf⟩, fun b m o e => F.up b m o (k b o (fun z => hx b z m) e), hs.trans F.same⟩
/-- an exception has been made -/
structure Made (s s' : Shared) (e C : Addr) : Prop where
  made : ∃ vs, Heap.MadeExcOf s.heap s'.heap e (.ref C) vs
  same : Same s s'
/-- what a frame's caller still finds -/
structure Past (xs : List Addr) (L : Addr) (l : List Env) (s s₂ : Shared) : Prop where
  keep : ∀ b o, b ∉ xs → s.heap.get? b = some o → s₂.heap.get? b = some o
  new : s.heap.get? L = none
  out : ∀ b ∈ xs, b ∉ frs l
  same : Same s s₂

section
variable {M : Model} {A : Around} {E : Value → Shared → Prop} {env : Env} {l : List Env} {L e C : Addr} {s s₂ s' : Shared} {xs : List Addr}
theorem Made.leave (hm : Made s₂ s' e C) (hfr : A.frames = some (env :: l)) (hf : env.frame = some L) (ff : FF (env :: l) s₂.heap) (P : Past xs L l s s₂) : wpAny M A (leaving env (.ref e)) (fun _ s'' => Flown xs l s s'' e C) E s' := by
  obtain ⟨vs, hx⟩ := hm.made
  refine wpAny_leaves_madeW (base := hideAll s₂.heap (frs (env :: l))) hfr hf (fun b o q => of_hideAll _ q) (ff.hid fun b m => m) hx fun h' t x1 x2 x3 x4 => ?_
  refine ⟨⟨_, _, fun b o n1 n2 e => hideAll_get _ (P.keep b o n1 e) fun m => ?_, x1⟩, fun b m o e hn => ?_, P.same.trans (hm.same.trans ⟨rfl, rfl⟩)⟩
  · rcases mem_frs m with q | q
    · rw [hf] at q; cases q; exact no1 P.new e
    · exact n2 q
  · exact x4 b o (hx.keeps b o (P.keep b o (fun z => P.out b z m) e)) hn
theorem Flown.leave (F : Flown [] (env :: l) s₂ s' e C) (hfr : A.frames = some (env :: l)) (hf : env.frame = some L) (P : Past xs L l s s₂) : wpAny M A (leaving env (.ref e)) (fun _ s'' => Flown xs l s s'' e C) E s' := by
  obtain ⟨B, a0, hB, hfl⟩ := F.fly
  refine wpAny_leaves_onW hfr hf hfl fun h' x1 x2 => ⟨⟨B, a0, fun b o n1 n2 e => hB b o (fun z => nomatch z) (fun m => ?_) (P.keep b o n1 e), x1⟩, fun b m o e hn => ?_, P.same.trans (F.same.trans ⟨rfl, rfl⟩)⟩
  · rcases mem_frs m with q | q
    · rw [hf] at q; cases q; exact no1 P.new e
    · exact n2 q
  · obtain ⟨sl, h1⟩ := F.up b (frs_tail m) o (P.keep b o (fun z => P.out b z m) e) hn
    obtain ⟨sl2, h2⟩ := x2 b _ h1 hn
    exact ⟨sl2, h2⟩
end

/-- where a body may raise a C -/
structure Cl (c : Cx) (l : List Env) (A : Around) (env : Env) (s₀ : Shared) (E : Value → Shared → Prop) (C : Addr) : Prop where
  frames : A.frames = some (env :: l)
  frame : env.frame = some env.locals
  ff : FF l s₀.heap
  nm : ∀ b ∈ frs l, ¬ Mut env [] b
  pass : PassesOwn (model c.prog c.w) A env E
  thr : ∀ e μ₂ s₂ s', Go env [] s₀ μ₂ s₂ → (∃ m, s₂.heap.Ns env.locals m) → (Made s₂ s' e C ∨ Flown [] (env :: l) s₂ s' e C) → E (.ref e) s'

def ExR (c : Cx) (k : Nat) (l : List Env) (C : Addr) (env : Env) (ρ : Vars) (μ : Mem) (ss : List Stmt) (Q : Out → Vars → Mem → Prop) : Prop :=
  ∀ X₀ A s₀ s E, Room k A → Cl c l A env s₀ E C → Go env [] s₀ μ s → St c X₀ env ρ μ s → wpAny (model c.prog c.w) A (execs ss env) (Post c X₀ env μ s Q) E s
def Ex1R (c : Cx) (k : Nat) (l : List Env) (C : Addr) (env : Env) (ρ : Vars) (μ : Mem) (st : Stmt) (Q : Out → Vars → Mem → Prop) : Prop :=
  ∀ X₀ A s₀ s E, Room k A → Cl c l A env s₀ E C → Go env [] s₀ μ s → St c X₀ env ρ μ s → wpAny (model c.prog c.w) A (exec st env) (Post c X₀ env μ s Q) E s

theorem ns_ff {h : Heap} {a : Addr} (x : ∃ m, h.Ns a m) : ∃ o, h.get? a = some o ∧ ∀ vs, o.data ≠ .fields vs := by
  obtain ⟨m, o, es, ep, e, d, _⟩ := x
  exact ⟨o, e, fun vs q => by rw [d] at q; cases q⟩
theorem FF.cons {env : Env} {l : List Env} {h : Heap} (x : FF l h) (hk : env.scope.kind = .function) (hf : env.frame = some env.locals) (hn : ∃ m, h.Ns env.locals m) : FF (env :: l) h := fun e he => by
  rcases List.mem_cons.mp he with rfl | he
  · obtain ⟨o, h1, h2⟩ := ns_ff hn
    exact ⟨by rw [hk]; decide, _, o, hf, h1, h2⟩
  · exact x e he

section
variable {c : Cx} {k : Nat} {l : List Env} {C : Addr} {env : Env} {ρ ρ' : Vars} {μ : Mem} {Q : Out → Vars → Mem → Prop}
theorem Cl.ffAt {A : Around} {s₀ s : Shared} {E : Value → Shared → Prop} (H : Cl c l A env s₀ E C) (g : Go env [] s₀ μ s) (hk : env.scope.kind = .function) (hn : ∃ m, s.heap.Ns env.locals m) : FF (env :: l) s.heap :=
  (H.ff.keep fun b m o e => g.keep b o (H.nm b m) e).cons hk H.frame hn

theorem exR_of {ss : List Stmt} (h : Ex c k env ρ μ ss Q) : ExR c k l C env ρ μ ss Q := fun X₀ A _ s E hA _ _ S => h X₀ A s E hA S
theorem ex1R_of {st : Stmt} (h : Ex1 c k env ρ μ st Q) : Ex1R c k l C env ρ μ st Q := fun X₀ A _ s E hA _ _ S => h X₀ A s E hA S
theorem exR_seq {st : Stmt} {rest : List Stmt} (h : Ex1R c k l C env ρ μ st (fun o ρ' μ' => match o with | .next => ExR c k l C env ρ' μ' rest Q | o => Q o ρ' μ')) : ExR c k l C env ρ μ (st :: rest) Q := by
  intro X₀ A s₀ s E hA H g₀ S
  refine wpAny_execs_cons (wpAny_mono (h X₀ A s₀ s E hA H g₀ S) (fun fl s' p => ?_) fun _ _ e => e)
  obtain ⟨o, ρ', μ', a, b, g, q⟩ := p
  cases fl <;> cases o <;> first | exact a.elim | skip
  · exact wpAny_mono (q X₀ A s₀ s' E hA H (g₀.trans g) b) (fun fl' s'' p' => Post.after g p') fun _ _ e => e
  · exact ⟨.brk, ρ', μ', trivial, b, g, q⟩
  · exact ⟨.cont, ρ', μ', trivial, b, g, q⟩
  · exact ⟨.ret _, ρ', μ', a, b, g, q⟩
theorem ex1R_if {test : Expr} {body orelse : List Stmt} {pos : Pos} {b : Bool} (ht : Tr c k env ρ μ test b) (h1 : b = true → ExR c k l C env ρ μ body Q) (h2 : b = false → ExR c k l C env ρ μ orelse Q) : Ex1R c k l C env ρ μ (.If test body orelse pos) Q := by
  intro X₀ A s₀ s E hA H g₀ S
  refine wpAny_If (wpAny_mono (ht _ A s E hA S.rc) (fun v s₁ q => ?_) fun _ _ e => e)
  obtain ⟨k₁, rfl⟩ := q
  have g₁ := g₀.trans (Go.of_kp k₁)
  cases v with
  | true =>
    simp only [if_true]
    exact wpAny_mono (h1 rfl X₀ A s₀ s₁ E hA H g₁ (S.kp k₁)) (fun _ _ p => Post.after (Go.of_kp k₁) p) fun _ _ e => e
  | false =>
    simp only [Bool.false_eq_true, if_false]
    exact wpAny_mono (h2 rfl X₀ A s₀ s₁ E hA H g₁ (S.kp k₁)) (fun _ _ p => Post.after (Go.of_kp k₁) p) fun _ _ e => e

theorem ex1R_for {x : Str} {px pos : Pos} {iter : Expr} {body : List Stmt} {ds : List D} (hi : Src c k env ρ μ iter ds) (h : TurnsG (fun ρ μ Q => ExR c k l C env ρ μ body Q) x Q ds ρ μ) (hx : stor env x = true := by rfl)
    (hs : ∀ x, foldedSetIterable iter env x = pure x := by intro _; rfl) : Ex1R c k l C env ρ μ (.For (.Name x px) iter body [] pos) Q := by
  intro X₀ A s₀ s E hA H g₀ S
  refine wpAny_For (wpAny_mono (hi _ A s E hA S.rc) (fun v s₁ h₁ => wpAny_mono h₁ (fun it s₂ h₂ => ?_) fun _ _ e => e) fun _ _ e => e) hs
  obtain ⟨I, fp, wr, P, W, rfl, O⟩ := h₂
  exact for_loop O (S.addX O.kp O.new (O.wrLive 0 _ O.start)) (O.foot_mut S) (O.new_base S.base) (O.new_X S.live) hx
    (fun ρ' μ' Q X₁ s₄ hT S₄ g₄ => wpAny_mono (hT X₁ A s₀ s₄ E hA H (g₀.trans (g₄.go O.kp O.new)) S₄) (fun _ _ q => q) fun e s' q => H.pass e s' q) h fun fl s' o ρ' μ' a S' g q => ⟨o, ρ', μ', a, S', g, q⟩

/-! ## raise C(..) -/
abbrev veMro : List Value := [.type "ValueError", .type "Exception", .type "BaseException", .type "object"]
theorem ex1R_raise {x : Str} {np cpos pos : Pos} {e : Expr} {d : D} (O : OwnCls x C veMro "ValueError.__new__" c.mg c.base) (he : Ev c k env ρ μ e d) (hs : notStar e = true := by rfl) (hx : env.kindOf x = some .globalImplicit := by rfl) (hd : (x == ("__debug__" : Str)) = false := by decide) :
    Ex1R c k l C env ρ μ (.Raise (some (.Call (.Name x np) [e] [] cpos)) none pos) Q := by
  intro X₀ A s₀ s E hA H g₀ S
  obtain ⟨tl, N, nm, q, bs, hdct, sn, sub, ab, col, dd, k0, k1, k2, k3, k5, mN, hC, hN, hni, T⟩ := O.obj
  have hse : backTo cpos (starEach [e] env) = [(false, eval e env)] := by rw [starEach_cons hs]; rfl
  refine wpAny_Raise_call_subT (C := C) (nm := nm) (q := q) (N := N) (bs := bs) (bm := tl) (hdct := hdct) (sn := sn) (sub := sub) (ab := ab) (col := col) (dd := dd) (k0 := k0) (k1 := k1) (k2 := k2) (k3 := k3) (k5 := k5)
    PySem.F.excBase_ValueError (mN := mN) (T.hasType (by decide)) hA.handled (by rw [hse]; rfl) hni (name_global S.rc hx O.bound ⟨rfl, ?_⟩ hd)
  have hev := evAll (.cons he .nil hs) cpos _ A s E hA S.rc
  rw [hse] at hev ⊢
  refine Calls.evalArgs_plain (wpAny_mono hev (fun vs s₂ h₂ => ?_) fun _ _ y => y)
  obtain ⟨k₂, r₂⟩ := h₂
  have hb := S.base.trans k₂.sub
  refine ⟨rfl, ?_, hb _ _ hC, hN.keeps hb, T.keeps hb, fun h' e' hm => H.thr e' μ s₂ _ (g₀.trans (Go.of_kp k₂)) (S.kp k₂).ns (.inl ⟨⟨_, hm⟩, ⟨rfl, rfl⟩⟩)⟩
  have := r₂.length
  rw [this, sizeLine_eq]; exact Nat.le_of_ble_eq_true rfl

/-! ## calls that raise -/
def FnR (c : Cx) (k : Nat) (f : Addr) (ds : List D) (C : Addr) : Prop :=
  ∀ X A s vs l, Room k A → A.frames = some l → FF l s.heap → Sub c.base s.heap → (∀ a, X a → ∃ o, s.heap.get? a = some o) → RdAll X s.heap vs ds →
    codeAny (model c.prog c.w) A (.call (.ref f) ⟨vs, []⟩) (fun r s' => ∃ e, r = .error (.ref e) ∧ Flown [] l s s' e C) s
theorem fnR_of {f : Addr} {st : Stmt} {ds : List D} (hf : FnAt c f st) (hb : Binds st ds.length) (h : ∀ qn cdv L l, ExR c k l C (fenv st qn cdv L f) ((namesOf st).zip ds).reverse [] (bodyOf st) (fun _ _ _ => False)) (ok : fnOk st = true := by rfl) : FnR c (k + 1) f ds C := by
  intro X A s vs l hA hfr ff hbase hlive hvs
  refine fn_enter hf hb ok hA hbase hlive hvs fun qn cdv L s₁ S₁ k₁ newM hA' => ?_
  have hfr' : (A.deeper (fenv st qn cdv L f)).frames = some (fenv st qn cdv L f :: l) := Around.frames_deeper hfr
  have hkind : (fenv st qn cdv L f).scope.kind = .function := S₁.ok.kind
  refine wpAny_mono (h qn cdv L l X _ s₁ s₁ _ hA' ⟨hfr', rfl, ff.keep fun b _ o e => k₁.sub b o e, fun b m q => let ⟨o, e⟩ := ff.live m; no1 (newM b q) e, fun e s' q => wpAny_leaving_again (SameStack.refl _) q, fun e μ₂ s₂ s' g hn q => ?_⟩ (Go.refl _ _ _) S₁) (fun fl s₂ p => let ⟨_, _, _, _, _, _, q⟩ := p; q.elim) fun _ _ e => e
  have kp := g.kp_of k₁ newM
  have P : Past [] L l s s₂ := ⟨fun b o _ e => kp.sub b o e, newM L (.inl rfl), fun b m => (nomatch m), kp.same⟩
  rcases q with q | q
  · refine wpAny_mono (q.leave hfr' rfl ((ff.keep fun b _ o e => kp.sub b o e).cons hkind rfl hn) P) (fun _ s'' F => ⟨e, rfl, F⟩) fun _ _ e => e
  · exact wpAny_mono (q.leave hfr' rfl P) (fun _ s'' F => ⟨e, rfl, F⟩) fun _ _ e => e
end
end Mine
end

/-! # N10 -/
section
set_option autoImplicit false
set_option linter.unusedVariables false
namespace Mine
open PySem PySem.Calls PyProof.Rows PySem.W

/-- all is kept but the slots of these frames -/
structure Up (fs : List Addr) (s s' : Shared) : Prop where
  keep : ∀ b o, b ∉ fs → s.heap.get? b = some o → s'.heap.get? b = some o
  up : ∀ b ∈ fs, ∀ o, s.heap.get? b = some o → (∀ vs, o.data ≠ .fields vs) → ∃ sl, s'.heap.get? b = some { o with slots := sl }
  same : Same s s'
theorem Up.of_kp {fs : List Addr} {s s' : Shared} (k : Kp s s') : Up fs s s' := ⟨fun b o _ e => k.sub b o e, fun b _ o e _ => ⟨o.slots, k.sub b o e⟩, k.same⟩
theorem Flown.toUp {l : List Env} {s s' : Shared} {e C : Addr} (F : Flown [] l s s' e C) : Up (frs l) s s' := ⟨fun b o n e => F.keep b o (fun z => nomatch z) n e, F.up, F.same⟩

section
variable {c : Cx} {k : Nat} {env : Env} {ρ : Vars} {μ : Mem}
/-- the frames of the callers, seen from a body -/
structure FrOk (c : Cx) (X₀ : Addr → Prop) (env : Env) (μ : Mem) (fs : List Addr) (h : Heap) : Prop where
  x : ∀ b ∈ fs, X₀ b
  base : ∀ b ∈ fs, c.base.get? b = none
  out : ∀ b ∈ fs, ¬ Mut env μ b
  nf : ∀ b ∈ fs, ∃ o, h.get? b = some o ∧ ∀ vs, o.data ≠ .fields vs
theorem St.up {X₀ : Addr → Prop} {s s' : Shared} {fs : List Addr} (S : St c X₀ env ρ μ s) (U : Up (env.locals :: fs) s s') (H : FrOk c X₀ env μ fs s.heap) : St c X₀ env ρ μ s' := by
  obtain ⟨m, hns⟩ := id S.ns
  have nsk : ∀ m', s.heap.Ns env.locals m' → s'.heap.Ns env.locals m' := fun m' x => by
    obtain ⟨o, es, ep, e, d, r⟩ := x
    obtain ⟨sl, h2⟩ := U.up env.locals (.head _) o e fun vs q => by rw [d] at q; cases q
    exact ⟨_, es, ep, h2, d, r⟩
  have kp : ∀ b o, b ≠ env.locals → b ∉ fs → s.heap.get? b = some o → s'.heap.get? b = some o := fun b o n1 n2 e => U.keep b o (fun z => (List.mem_cons.mp z).elim n1 n2) e
  have celk : ∀ n a, env.cells.lookup n = some a → ∀ ov, s.heap.IsCell a ov → s'.heap.IsCell a ov := fun n a h ov x => by
    obtain ⟨o, e, d⟩ := x
    exact ⟨o, kp a o (IsCell_ne_Ns ⟨o, e, d⟩ hns) (fun z => H.out a z (.inr (.inl ⟨n, h⟩))) e, d⟩
  have hx : ∀ a o, ¬ XOf X₀ env μ a → s.heap.get? a = some o → ¬ XOf X₀ env μ a ∧ s'.heap.get? a = some o := fun a o n e => ⟨n, kp a o (fun q => n (.inr (.inl q))) (fun z => n (.inl (H.x a z))) e⟩
  refine { S with base := fun a o e => kp a o (fun q => ?_) (fun z => no1 (H.base a z) e) (S.base a o e), live := fun a h => ?_, ns := ⟨m, nsk m hns⟩, cel := fun n a h => (S.cel n a h).imp (celk n a h), vars := fun x d e => ?_, mem := fun a ds h => ?_ }
  · exact no1 (S.own a (.inl q)) e
  · obtain ⟨o, e⟩ := S.live a h
    by_cases z : a ∈ fs
    · obtain ⟨o', e', hn⟩ := H.nf a z
      obtain ⟨sl, h2⟩ := U.up a (.tail _ z) o' e' hn
      exact ⟨_, h2⟩
    · by_cases q : a = env.locals
      · obtain ⟨o', _, _, e', _⟩ := nsk m hns; exact ⟨o', q ▸ e'⟩
      · exact ⟨o, kp a o q z e⟩
  · obtain ⟨v, a, b⟩ := S.vars x d e
    refine ⟨v, ?_, b.mono hx⟩
    rcases a with ⟨a, m', n', q⟩ | ⟨a, c', q, i⟩
    · exact .inl ⟨a, m', nsk m' n', q⟩
    · exact .inr ⟨a, c', q, celk x c' q _ i⟩
  · obtain ⟨vs, ⟨o, e, hc, r⟩, b⟩ := S.mem a ds h
    obtain ⟨hdn, n, hd⟩ := id r
    refine ⟨vs, ⟨o, kp a o (IsList_ne_Ns ⟨o, e, hc, n, hd⟩ hns) (fun z => H.out a z (.inr (.inr ⟨ds, h⟩))) e, hc, r⟩, b.mono hx⟩

/-! ## an object's method that raises -/
variable {K : Frag} {C Ce : Addr} {l : List Env}
theorem Rc.lendI {X : Addr → Prop} {s : Shared} {x dx : Addr} {n : Str} {ns : List Str} {us : List Value} {ds : List D} (R : Rc c X env ρ [] s) (hx : c.base.get? x = some (instObj C dx)) (hns : c.base.Ns dx (fun y => (ns.zip us).lookup y)) (hl : ns.length = us.length) (hr : RdAll (fun _ => True) c.base us ds) (hsc : ∀ d ∈ ds, scalar d = true)
    (hn : ρ.lookup n = some (.raw (.ref x))) : Rc c (fun b => X b ∧ b ≠ x ∧ b ≠ dx) env ((n, .inst C ns ds) :: ρ) [] s := by
  refine ⟨R.ok, R.base, fun a h => R.live a h.1, fun n' a h => ?_, R.apart, fun y d' q => ?_, fun a es h => (nomatch h)⟩
  · obtain ⟨h1, h2, h3⟩ := R.cel n' a h
    refine ⟨⟨h1, fun q => no1 (q ▸ h2) hx, fun q => ?_⟩, h2, h3⟩
    obtain ⟨o, _, _, e, _⟩ := hns; exact no1 (q ▸ h2) e
  · rw [List.lookup_cons] at q
    cases hb : y == n with
    | true =>
      rw [hb] at q; cases q
      obtain ⟨v, hv, r⟩ := R.vars n _ hn
      cases r
      rw [beq_iff_eq.mp hb]
      exact ⟨_, hv, .inst (fun z => z.2.1 rfl) (R.base _ _ hx) rfl rfl rfl (fun z => z.2.2 rfl) (hns.keeps R.base) hl (hr.scalar hsc)⟩
    | false =>
      rw [hb] at q
      obtain ⟨v, hv, r⟩ := R.vars y d' q
      exact ⟨v, hv, r.weak fun _ z => z.1⟩

theorem raise_meth {x name : Str} {px apos pos : Pos} {ns : List Str} {ds es : List D} {f : Addr} {st : Stmt} {args : List Expr} {pl : Sem Bool} {X : Addr → Prop} {A : Around} {s : Shared} {Q : Value → Shared → Prop} {E : Value → Shared → Prop} (H : ClsK c K C) (hf : findIn K (.ref C) name = some (some (.ref f))) (ht : typeIn K (.ref f) = some (.type "function")) (hF : FnAt c f st)
    (ho : Ev c k env ρ μ (.Name x px) (.inst C ns ds)) (ha : EvAll c k env ρ μ args es) (hFn : FnR c k f (.inst C ns ds :: es) Ce) (hA : Room k A) (R : Rc c X env ρ μ s) (hfr : A.frames = some l) (ff : FF l s.heap) (hE : ∀ e s', Flown [] l s s' e Ce → E (.ref e) s') (hl : (ns.zip ds).lookup name = none := by rfl) (hne : args ≠ [] := by intro h; cases h)
    (he : eval (.Call (.Attribute (.Name x px) name apos) args [] pos) env = (do
      let ov ← eval (.Name x px) env
      standAt apos.atName
      let (f, first) ← holding [ov] (getMethod ov name pl)
      callWith pos f first (backTo pos (starEach args env)) (backToKw pos (keywordEach [] env))) := by rfl) : wpAny (model c.prog c.w) A (eval (.Call (.Attribute (.Name x px) name apos) args [] pos) env) Q E s := by
  refine methodCall_KW (pl := pl) (gives_bind (ho X A s hA R) fun v s₁ k₁ r₁ => ?_) he
  obtain ⟨a, ox, od, vs, rfl, I, hlk, hr⟩ := inst_at r₁
  have R₁ := R.keep k₁.sub
  refine method_fn (H.kx.keeps R₁.base) I H.ga H.gt hf ht (by show (lookIn name od).map _ = _; rw [hlk, zlook_none hr hl]; rfl) ?_
  obtain ⟨o, nm, qn, doc, pm, an, cdv, ct, ho', hd', hcd⟩ := hF
  show wpAny _ _ (callWith pos (.ref f) [.ref a] (backTo pos (starEach args env)) []) _ _ _
  refine callWith_first (first := [.ref a]) R₁ hA ha (fun s' k' => ⟨.frame, .inl rfl, fun Q' hq => ?_⟩) hne fun us s₂ k₂ r₂ => ?_
  · unfold keeperOf
    refine wpAny_bind (wpAny_load (k'.sub _ _ (R₁.base _ _ ho')) ?_)
    rw [hd']; exact wpAny_pure hq
  · have R₂ := R₁.keep k₂.sub
    have kk := k₁.trans k₂
    refine wpAny_call (codeAny_mono (hFn X A s₂ (.ref a :: us) l hA hfr (ff.keep fun b _ o e => kk.sub b o e) R₂.base R₂.live (.cons (r₁.keep k₂.sub) r₂)) fun r s' z => ?_)
    obtain ⟨e, rfl, F⟩ := z
    exact hE e s' (F.of_kp (fun b o _ e => kk.sub b o e) kk.same (fun _ _ _ _ z => nomatch z) fun _ z => nomatch z)

theorem ex1R_selfMeth {Q : Out → Vars → Mem → Prop} {n name : Str} {px apos cpos pos : Pos} {x dx : Addr} {ns : List Str} {us : List Value} {ds es : List D} {f : Addr} {st : Stmt} {args : List Expr} {pl : Sem Bool} (H : ClsK c K C) (hf : findIn K (.ref C) name = some (some (.ref f))) (ht : typeIn K (.ref f) = some (.type "function")) (hF : FnAt c f st)
    (hx : c.base.get? x = some (instObj C dx)) (hns : c.base.Ns dx (fun y => (ns.zip us).lookup y)) (hl' : ns.length = us.length) (hr : RdAll (fun _ => True) c.base us ds) (hsc : ∀ d ∈ ds, scalar d = true) (hn : ρ.lookup n = some (.raw (.ref x)))
    (ha : EvAll c k env ((n, .inst C ns ds) :: ρ) [] args es) (hFn : FnR c k f (.inst C ns ds :: es) Ce) (hl : (ns.zip ds).lookup name = none := by rfl) (hne : args ≠ [] := by intro h; cases h) (hd : (n == ("__debug__" : Str)) = false := by decide)
    (he : eval (.Call (.Attribute (.Name n px) name apos) args [] cpos) env = (do
      let ov ← eval (.Name n px) env
      standAt apos.atName
      let (f, first) ← holding [ov] (getMethod ov name pl)
      callWith cpos f first (backTo cpos (starEach args env)) (backToKw cpos (keywordEach [] env))) := by rfl)
    (hi : interactive env = false := by rfl) (hs : swapsWith (.Call (.Attribute (.Name n px) name apos) args [] cpos) none pos.line env = pure false := by rfl) : Ex1R c k l Ce env ρ [] (.Expr (.Call (.Attribute (.Name n px) name apos) args [] cpos) pos) Q := by
  intro X₀ A s₀ s E hA Hc g₀ S
  exact wpAny_Expr_any (raise_meth H hf ht hF (ev_name (by rw [List.lookup_cons_self]) hd) ha hFn hA (S.rc.lendI hx hns hl' hr hsc hn) Hc.frames (Hc.ffAt g₀ S.ok.kind S.ns) (fun e s' F => Hc.thr e [] s s' g₀ S.ns (.inr F)) hl hne he) hi hs

/-! ## making an object, where __init__ raises -/
def InitX (c : Cx) (k : Nat) (f C : Addr) (es : List D) (Ce : Addr) : Prop :=
  ∀ X A s vs x dx l, Room k A → A.frames = some l → FF l s.heap → Sub c.base s.heap → (∀ a, X a → ∃ o, s.heap.get? a = some o) → X x → X dx → x ≠ dx → c.base.get? x = none → c.base.get? dx = none → s.heap.get? x = some (instObj C dx) → s.heap.Ns1 dx (fun _ => none) → x ∉ frs l → dx ∉ frs l → RdAll X s.heap vs es →
    codeAny (model c.prog c.w) A (.call (.ref f) ⟨.ref x :: vs, []⟩) (fun r s' => ∃ e, r = .error (.ref e) ∧ Flown [dx] l s s' e Ce) s

theorem raise_make {x : Str} {px pos : Pos} {fI : Addr} {args : List Expr} {es : List D} {X : Addr → Prop} {A : Around} {s : Shared} {Q : Value → Shared → Prop} {E : Value → Shared → Prop} (H : ClsK c K C) (hm : makesIn K C = true) (hi : findIn K (.ref C) "__init__" = some (some (.ref fI))) (hf : typeIn K (.ref fI) = some (.type "function"))
    (hg : c.mg x = some (.ref C)) (ha : EvAll c (k + 1) env ρ μ args es) (hI : InitX c k fI C es Ce) (hA : Room (k + 1) A) (R : Rc c X env ρ μ s) (hfr : A.frames = some l) (ff : FF l s.heap) (hE : ∀ e s', Flown [] l s s' e Ce → E (.ref e) s') (hne : args ≠ [] := by intro h; cases h)
    (hx : env.kindOf x = some .globalImplicit := by rfl) (hd : (x == ("__debug__" : Str)) = false := by decide) : wpAny (model c.prog c.w) A (eval (.Call (.Name x px) args [] pos) env) Q E s := by
  refine Call_ (name_global R hx hg ?_ hd)
  refine callWith_plain R hA ha (fun s' k' => ⟨.machine, .inr rfl, fun Q' hq => ?_⟩) hne fun vs s₁ k₁ r₁ => ?_
  · have Y := makes_of (M := model c.prog c.w) (H.kx.keeps (R.base.trans k'.sub)) hm
    obtain ⟨oc, od, cd, sl, hC, _⟩ := Y.obj
    unfold keeperOf
    refine wpAny_bind (wpAny_load hC ?_)
    refine wpAny_bind (Y.call.here ?_)
    exact wpAny_pure hq
  · have R₁ := R.keep k₁.sub
    have KX := H.kx.keeps R₁.base
    have ff₁ : FF l s₁.heap := ff.keep fun b _ o e => k₁.sub b o e
    obtain ⟨h, g, d, t, os⟩ := s₁
    refine wpAny_call (make_core (makes_of KX hm) (looks_findIn KX hi) (fun self => bind_fn KX self hf) (.inl rfl) ?_)
    have hk : Sub h ((h.push emptyDict).push (instObj C h.objs.size)) := fun b o e => Heap.get?_push_of_some _ (Heap.get?_push_of_some _ e)
    have new : ∀ b : Nat, h.objs.size ≤ b → h.get? b = none := fun b hb => none_of fun o e => absurd (Heap.lt_size e) (Nat.not_lt.mpr hb)
    have newB : ∀ b : Nat, h.objs.size ≤ b → c.base.get? b = none := fun b hb => none_of fun o e => no1 (new b hb) (R₁.base b o e)
    have newF : ∀ b : Nat, h.objs.size ≤ b → b ∉ frs l := fun b hb m => let ⟨o, e⟩ := ff₁.live m; no1 (new b hb) e
    have hx : ((h.push emptyDict).push (instObj C h.objs.size)).get? (h.objs.size + 1) = some (instObj C h.objs.size) := by
      have := Heap.get?_push_size (h.push emptyDict) (o := instObj C h.objs.size) rfl
      rwa [Heap.size_push] at this
    have hns : ((h.push emptyDict).push (instObj C h.objs.size)).Ns h.objs.size (fun _ => none) := (Heap.Ns.new h (.type "dict")).keeps fun b o e => Heap.get?_push_of_some _ e
    have hfr' : (A.under (.builtin "type.__call__" ⟨.ref C :: vs, []⟩)).frames = some l := by
      rw [← hfr]
      with_unfolding_all rfl
    refine codeAny_mono (hI (fun b => X b ∨ b = h.objs.size + 1 ∨ b = h.objs.size) _ _ vs (h.objs.size + 1) h.objs.size l (hA.make vs) hfr' (ff₁.keep fun b _ o e => hk b o e) (R₁.base.trans hk) (fun a ha => ?_) (.inr (.inl rfl)) (.inr (.inr rfl)) (Nat.succ_ne_self _) (newB _ (Nat.le_succ _)) (newB _ (Nat.le_refl _)) hx (Heap.Ns1.of_empty hns) (newF _ (Nat.le_succ _)) (newF _ (Nat.le_refl _)) (r₁.mono fun b o n e => ⟨?_, hk b o e⟩)) fun r s' z => ?_
    · rcases ha with q | q | q
      · exact (R₁.live a q).imp fun o e => hk a o e
      · exact ⟨_, q ▸ hx⟩
      · obtain ⟨o, _, _, e, _⟩ := hns; exact ⟨o, q ▸ e⟩
    · have := Heap.lt_size e
      rintro (q | q | q)
      · exact n q
      · subst q; exact absurd this (by simp)
      · subst q; exact absurd this (Nat.lt_irrefl _)
    · obtain ⟨e, rfl, F⟩ := z
      exact hE e s' (F.of_kp (fun b o _ e => hk b o (k₁.sub b o e)) ⟨k₁.same.os, k₁.same.gens⟩ (fun b o _ e z => by rw [List.mem_singleton.mp z] at e; exact no1 (new _ (Nat.le_refl _)) (k₁.sub _ o e)) fun _ z => nomatch z)
end
end Mine
end

/-! # N11 -/
section
set_option autoImplicit false
set_option linter.unusedVariables false
namespace Mine
open PySem PySem.Calls PyProof.Rows PySem.W

section
variable {c : Cx} {k : Nat} {env : Env} {ρ : Vars} {μ : Mem} {K : Frag} {C e : Addr} {l : List Env} {X : Addr → Prop} {A : Around} {E : Value → Shared → Prop} {s s₁ : Shared} {Q : Flow → Shared → Prop}

theorem Flown.ty {M : Model} {xs : List Addr} (F : Flown xs l s s₁ e C) : Looks M s₁.heap (typeOf (.ref e)) (.ref C) := by
  obtain ⟨B, a0, _, hf⟩ := F.fly
  obtain ⟨ob, h1, h2⟩ := hf.there
  exact h2 ▸ (Looks.ld h1).andThen .now

/-- it is caught: the clauses are asked -/
theorem caught_at {L : Addr} {hs : List ExceptHandler} (F : Flown [] (env :: l) s s₁ e C) (hfr : A.frames = some (env :: l)) (hf : env.frame = some L) (h : ∀ s₂, Flown [] (env :: l) s s₂ e C → wpAny (model c.prog c.w) A (handleBy (.ref e) env hs) Q E s₂) :
    wpAny (model c.prog c.w) A (noteFrame (.ref e) env) (fun _ s₂ => wpAny (model c.prog c.w) A (setFlight (.ref e) none) (fun _ s₃ => wpAny (model c.prog c.w) A (handleBy (.ref e) env hs) Q E s₃) E s₂) E s₁ := by
  obtain ⟨B, a0, hB, hfl⟩ := F.fly
  refine wpAny_looks_onW hfr hf hfl fun h₄ hh₄ u₄ => wpAny_landsW hh₄ fun h₅ hf₅ u₅ => h _ ⟨⟨B, a0, hB, hf₅⟩, fun b m o e hn => ?_, F.same.trans ⟨rfl, rfl⟩⟩
  obtain ⟨sl, h1⟩ := F.up b m o e hn
  obtain ⟨sl2, h2⟩ := u₄ b _ h1 hn
  obtain ⟨sl3, h3⟩ := u₅ b _ h2 hn
  exact ⟨sl3, h3⟩
/-- not this clause -/
theorem handle_no {x : Str} {np pos : Pos} {nm : Option Str} {body : List Stmt} {rest : List ExceptHandler} {D : Addr} (F : Flown [] (env :: l) s s₁ e C) (R : Rc c X env ρ μ s₁) (KX : K.In c.base) (hg : c.mg x = some (.ref D)) (hm : exmOne K (.ref C) (.ref D) = some false) (h : wpAny (model c.prog c.w) A (handleBy (.ref e) env rest) Q E s₁)
    (hx : env.kindOf x = some .globalImplicit := by rfl) (hd : (x == ("__debug__" : Str)) = false := by decide) : wpAny (model c.prog c.w) A (handleBy (.ref e) env (.ExceptHandler (some (.Name x np)) nm body pos :: rest)) Q E s₁ := by
  refine wpAny_handleBy_cons (codeAny_handlers_test (name_global R hx hg ?_ hd)) (by intro q; cases q)
  exact (exm_one (KX.keeps R.base) F.ty hm).here h
theorem land_again {M : Model} {Q : Unit → Shared → Prop} (F : Flown [] (env :: l) s s₁ e C) (h : ∀ s₂, Flown [] (env :: l) s s₂ e C → Q () s₂) : wpAny M A (setFlight (.ref e) none) Q E s₁ := by
  obtain ⟨B, a0, hB, hfl⟩ := F.fly
  refine lands_againW hfl fun h₅ hf₅ u₅ => h _ ⟨⟨B, a0, hB, hf₅⟩, fun b m o e hn => ?_, F.same.trans ⟨rfl, rfl⟩⟩
  obtain ⟨sl, h1⟩ := F.up b m o e hn
  obtain ⟨sl3, h3⟩ := u₅ b _ h1 hn
  exact ⟨sl3, h3⟩
/-- this clause -/
theorem handle_yes {x : Str} {np pos : Pos} {b₀ : Stmt} {suite : List Stmt} {rest : List ExceptHandler} {D : Addr} (F : Flown [] (env :: l) s s₁ e C) (R : Rc c X env ρ μ s₁) (KX : K.In c.base) (hg : c.mg x = some (.ref D)) (hm : exmOne K (.ref C) (.ref D) = some true)
    (h : ∀ s₂ E', Flown [] (env :: l) s s₂ e C → wpAny (model c.prog c.w) (A.mark (some (.ref e))) (execs (b₀ :: suite) env) Q E' s₂)
    (hx : env.kindOf x = some .globalImplicit := by rfl) (hd : (x == ("__debug__" : Str)) = false := by decide) : wpAny (model c.prog c.w) A (handleBy (.ref e) env (.ExceptHandler (some (.Name x np)) none (b₀ :: suite) pos :: rest)) Q E s₁ := by
  refine wpAny_handleBy_cons (codeAny_handlers_test (name_global R hx hg ?_ hd)) (by intro q; cases q)
  exact (exm_one (KX.keeps R.base) F.ty hm).here (codeAny_handlers_suite (land_again F fun s₂ F₂ => h s₂ _ F₂))
/-- this clause, and the exception gets a name -/
theorem handle_as {x n : Str} {np pos : Pos} {b₀ : Stmt} {suite : List Stmt} {rest : List ExceptHandler} {D : Addr} (F : Flown [] (env :: l) s s₁ e C) (R : Rc c X env ρ μ s₁) (KX : K.In c.base) (hg : c.mg x = some (.ref D)) (hm : exmOne K (.ref C) (.ref D) = some true)
    (h : ∀ s₂ E₁ E₂, Flown [] (env :: l) s s₂ e C → wpAny (model c.prog c.w) (A.mark (some (.ref e))) (storeName env n (.ref e)) (fun _ s₃ => wpAny (model c.prog c.w) (A.mark (some (.ref e))) (execs (b₀ :: suite) env)
      (fun f s₄ => wpAny (model c.prog c.w) A (do bindName env n .none; unbindBehindTheSuite env n pos) (fun _ s₅ => Q f s₅) E s₄) E₁ s₃) E₂ s₂)
    (hx : env.kindOf x = some .globalImplicit := by rfl) (hd : (x == ("__debug__" : Str)) = false := by decide) : wpAny (model c.prog c.w) A (handleBy (.ref e) env (.ExceptHandler (some (.Name x np)) (some n) (b₀ :: suite) pos :: rest)) Q E s₁ := by
  refine wpAny_handleBy_cons (codeAny_handlers_test (name_global R hx hg ?_ hd)) (by intro q; cases q)
  exact (exm_one (KX.keeps R.base) F.ty hm).here (codeAny_handlers_suite_as (land_again F fun s₂ F₂ => h s₂ _ _ F₂))

/-- try: e, where e raises -/
theorem try_raise {L : Addr} {ex : Expr} {p1 pos : Pos} {h₀ : ExceptHandler} {hs : List ExceptHandler} (hfr : A.frames = some (env :: l)) (hf : env.frame = some L) (he : ∀ Q' E', (∀ e s', Flown [] (env :: l) s s' e C → E' (.ref e) s') → wpAny (model c.prog c.w) A (eval ex env) Q' E' s)
    (hh : ∀ e s₂, Flown [] (env :: l) s s₂ e C → wpAny (model c.prog c.w) A (handleBy (.ref e) env (h₀ :: hs)) Q E s₂) (hi : interactive env = false := by rfl) (hsw : swapsWith ex none p1.line env = pure false := by rfl) :
    wpAny (model c.prog c.w) A (exec (.Try [.Expr ex p1] (h₀ :: hs) [] [] pos) env) Q E s :=
  wpAny_Try_except (wpAny_execs_cons (wpAny_Expr_any (he _ _ fun e s' F => caught_at F hfr hf (hh e)) hi hsw))
/-- try, where nothing is raised -/
theorem ex1_try {Q : Out → Vars → Mem → Prop} {body : List Stmt} {pos : Pos} {h₀ : ExceptHandler} {hs : List ExceptHandler} (h : Ex c k env ρ μ body Q) : Ex1 c k env ρ μ (.Try body (h₀ :: hs) [] [] pos) Q := by
  intro X₀ A s E hA S
  refine wpAny_Try_except (wpAny_mono (h X₀ A s _ hA S) (fun fl s' p => ?_) fun _ _ e => e)
  cases fl <;> first | exact wpAny_execs_nil p | exact p

/-! ## functions that catch -/
def FnX (c : Cx) (k : Nat) (f : Addr) (ds : List D) (r : D) : Prop :=
  ∀ X A s vs l E, Room k A → A.frames = some l → FF l s.heap → (∀ b ∈ frs l, X b ∧ c.base.get? b = none) → Sub c.base s.heap → (∀ a, X a → ∃ o, s.heap.get? a = some o) → RdAll X s.heap vs ds →
    wpAny (model c.prog c.w) A (call (.ref f) vs) (fun v s' => Up (frs l) s s' ∧ Rd X s'.heap v r) E s
theorem Fn.x {f : Addr} {ds : List D} {r : D} (h : Fn c k f ds r) : FnX c k f ds r := fun X A s vs l E hA _ _ _ hb hl hr => wpAny_mono (h X A s vs hA hb hl hr E) (fun _ _ q => ⟨Up.of_kp q.1, q.2⟩) fun _ _ e => e
theorem fnX_of {f : Addr} {st : Stmt} {ds : List D} {r : D} (hf : FnAt c f st) (hb : Binds st ds.length) (hs : scalar r = true)
    (h : ∀ qn cdv L l X A s₁ E, Room k A → A.frames = some (fenv st qn cdv L f :: l) → FF (fenv st qn cdv L f :: l) s₁.heap → FrOk c X (fenv st qn cdv L f) [] (frs l) s₁.heap → St c X (fenv st qn cdv L f) ((namesOf st).zip ds).reverse [] s₁ →
      wpAny (model c.prog c.w) A (execs (bodyOf st) (fenv st qn cdv L f)) (fun fl s' => Up (L :: frs l) s₁ s' ∧ ∃ v, fl = .ret v ∧ Rd X s'.heap v r) E s₁) (ok : fnOk st = true := by rfl) : FnX c (k + 1) f ds r := by
  intro X A s vs l E hA hfr ff hl hbase hlive hvs
  refine wpAny_call (fn_enter hf hb ok hA hbase hlive hvs fun qn cdv L s₁ S₁ k₁ newM hA' => ?_)
  have ff₁ : FF l s₁.heap := ff.keep fun b _ o e => k₁.sub b o e
  have hnL := newM L (.inl rfl)
  refine wpAny_mono (h qn cdv L l X _ s₁ _ hA' (Around.frames_deeper hfr) (ff₁.cons S₁.ok.kind rfl S₁.ns) ⟨fun b m => (hl b m).1, fun b m => (hl b m).2, fun b m q => let ⟨o, e⟩ := ff.live m; no1 (newM b q) e, fun b m => ?_⟩ S₁) (fun fl s' p => ?_) fun _ _ e => e
  · obtain ⟨e', he, hf'⟩ := List.mem_filterMap.mp m
    obtain ⟨_, L', o, h2, h3, h4⟩ := ff₁ e' he
    rw [hf'] at h2; cases h2; exact ⟨o, h3, h4⟩
  · obtain ⟨U, v, rfl, r⟩ := p
    refine ⟨⟨fun b o n e => U.keep b o (fun z => (List.mem_cons.mp z).elim (fun q => no1 hnL (q ▸ e)) n) (k₁.sub b o e), fun b m o e hn => U.up b (.tail _ m) o (k₁.sub b o e) hn, k₁.same.trans U.same⟩, r.scalar hs⟩
end

/-! ## isinstance of an exception -/
section
variable {prog : Program} {w : World} {A : Around} {E : Value → Shared → Prop} {s : Shared} {K : Frag}
theorem isi_type {C : Addr} {v : Value} {T : String} {Q : Value → Shared → Prop} (X : K.In s.heap) (ht : ∀ M, Looks M s.heap (typeOf v) (.ref C)) (e1 : typeOf (.type T) = pure (.type "type")) (e3 : subIn K (.ref C) (.type T) = some true) (hx : v ≠ .builtin "__main__.__loader__#opaque") (h : Q (.bool true) s) :
    wpAny (model prog w) A (call (.builtin "isinstance") [v, .type T]) Q E s := by
  refine call_isinstance (S := fun _ R s => (K.In s.heap ∧ ∀ M, Looks M s.heap (typeOf v) (.ref C)) ∧ R (.ok (.ret (.bool true))) s) (fun prog w A R s hs => isinstance_outer ?_ hx) ⟨⟨X, ht⟩, h⟩
  obtain ⟨⟨X, ht⟩, h⟩ := hs
  obtain ⟨hh, g, d, tt, os⟩ := s
  unfold Builtin.«isinstance.nested» rawInt
  refine wpAny_bind ((ht _).at ?_)
  rw [if_neg (by simp)]
  have L3 : Looks (model prog w) hh (isInstance v (.type T)) true := (ht _).andThen (looks_subIn X e3)
  refine wpAny_bind ?_
  rw [e1]
  refine wpAny_pure ?_
  rw [if_pos (by decide)]
  k_delta "plainIsInstance"
  unfold isType
  refine wpAny_bind (wpAny_bind (wpAny_pure ?_))
  simp only [Bool.not_true, Bool.false_eq_true, if_false]
  refine wpAny_bind (L3.at ?_)
  simp only [if_true]
  exact wpAny_pure (wpAny_pure h)
end
end Mine
end

/-! # N12 -/
section
set_option autoImplicit false
set_option linter.unusedVariables false
namespace Mine
open PySem PySem.Calls PyProof.Rows

section
variable {c : Cx} {k : Nat} {env : Env} {ρ : Vars} {μ : Mem} {α : Type} {g : α → D} {l : List α} {p : α → Bool} {elt iter : Expr} {ifs : List Expr} {scope : Scope} {x y : Str} {px py pos spos : Pos}
open Classical in
noncomputable def liftI {α : Type} (g : α → D) (f : α → List Int) (d : D) : List Int := if e : ∃ a, g a = d then f e.choose else []
theorem liftI_eq (hg : ∀ a b, g a = g b → a = b) (f : α → List Int) (a : α) : liftI g f (g a) = f a := by
  unfold liftI
  have e : ∃ b, g b = g a := ⟨a, rfl⟩
  rw [dif_pos e, hg _ _ e.choose_spec]
theorem lift_listI (hg : ∀ a b, g a = g b → a = b) (f : α → List Int) (p : α → Bool) : ∀ l : List α, ((l.map g).filter (liftP g p)).map (liftI g f) = (l.filter p).map f
  | [] => rfl
  | a :: l => by
    rw [List.map_cons, List.filter_cons, List.filter_cons, liftP_eq hg]
    split
    · rw [List.map_cons, List.map_cons, liftI_eq hg, lift_listI hg f p l]
    · exact lift_listI hg f p l
theorem evF_compM {β : Type} {h : β → D} {f : α → β} (hg : ∀ a b, g a = g b → a = b) (src : Src c k env ρ μ iter (l.map g)) (tests : ∀ C cl a, a ∈ l → Tests c k (cenvOf scope env C cl) ((x, g a) :: capt scope ρ) ifs (p a))
    (elts : ∀ C cl a, a ∈ l → p a = true → Ev c k (cenvOf scope env C cl) ((x, g a) :: capt scope ρ) [] elt (h (f a))) (hlen : l.length ≤ 16777216)
    (ok : compOk scope env x = true := by rfl) (hs : ∀ x, foldedSetIterable iter env x = pure x := by intro _; rfl) : EvF c k env ρ μ (.ListComp elt [⟨.Name x px, iter, ifs, 0⟩] scope pos) (((l.filter p).map f).map h) := by
  rw [← lift_list hg h f p l]
  refine evF_comp src (fun C cl d hd => ?_) (fun C cl d hd hp => ?_) (by simpa using hlen) ok hs
  · obtain ⟨a, ha, rfl⟩ := List.mem_map.mp hd
    rw [liftP_eq hg]; exact tests C cl a ha
  · obtain ⟨a, ha, rfl⟩ := List.mem_map.mp hd
    rw [liftP_eq hg] at hp
    rw [liftF_eq hg]; exact elts C cl a ha hp
theorem evNN_compM {f : α → List Int} (hg : ∀ a b, g a = g b → a = b) (src : Src c k env ρ μ iter (l.map g)) (tests : ∀ C cl a, a ∈ l → Tests c k (cenvOf scope env C cl) ((x, g a) :: capt scope ρ) ifs (p a))
    (elts : ∀ C cl a, a ∈ l → p a = true → EvF c k (cenvOf scope env C cl) ((x, g a) :: capt scope ρ) [] elt ((f a).map .int)) (hlen : l.length ≤ 16777216)
    (ok : compOk scope env x = true := by rfl) (hs : ∀ x, foldedSetIterable iter env x = pure x := by intro _; rfl) : EvNN c k env ρ μ (.ListComp elt [⟨.Name x px, iter, ifs, 0⟩] scope pos) ((l.filter p).map f) := by
  rw [← lift_listI hg f p l]
  refine evNN_comp src (fun C cl d hd => ?_) (fun C cl d hd hp => ?_) (by simpa using hlen) ok hs
  · obtain ⟨a, ha, rfl⟩ := List.mem_map.mp hd
    rw [liftP_eq hg]; exact tests C cl a ha
  · obtain ⟨a, ha, rfl⟩ := List.mem_map.mp hd
    rw [liftP_eq hg] at hp
    rw [liftI_eq hg]; exact elts C cl a ha hp
theorem ex_assign_compNM {Q : Out → Vars → Mem → Prop} {f : α → List Int} (hg : ∀ a b, g a = g b → a = b) (src : Src c k env ρ μ iter (l.map g)) (tests : ∀ C cl a, a ∈ l → Tests c k (cenvOf scope env C cl) ((x, g a) :: capt scope ρ) ifs (p a))
    (elts : ∀ C cl a, a ∈ l → p a = true → EvF c k (cenvOf scope env C cl) ((x, g a) :: capt scope ρ) [] elt ((f a).map .int)) (hlen : l.length ≤ 16777216)
    (h : ∀ a bs, bs.length = ((l.filter p).map f).length → (a :: bs).Nodup → Q .next ((y, rawR a) :: ρ) (memN a bs ((l.filter p).map f) ++ μ))
    (hsw : swapsWith (.ListComp elt [⟨.Name x px, iter, ifs, 0⟩] scope pos) (some (.Name y py)) spos.line env = pure true := by rfl) (hy : stor env y = true := by rfl)
    (ok : compOk scope env x = true := by rfl) (hs : ∀ x, foldedSetIterable iter env x = pure x := by intro _; rfl) :
    Ex1 c k env ρ μ (.Assign [.Name y py] (.ListComp elt [⟨.Name x px, iter, ifs, 0⟩] scope pos) spos) Q := by
  rw [← lift_listI hg f p l] at h
  refine ex_assign_compN src (fun C cl d hd => ?_) (fun C cl d hd hp => ?_) (by simpa using hlen) h hsw hy ok hs
  · obtain ⟨a, ha, rfl⟩ := List.mem_map.mp hd
    rw [liftP_eq hg]; exact tests C cl a ha
  · obtain ⟨a, ha, rfl⟩ := List.mem_map.mp hd
    rw [liftP_eq hg] at hp
    rw [liftI_eq hg]; exact elts C cl a ha hp

/-! ## the appending of a list of its own keeps the memory -/
theorem memN_snoc {a b : Addr} {bs : List Addr} {iss : List (List Int)} {is : List Int} (hl : bs.length = iss.length) (hn : (a :: bs).Nodup) (hm : ∀ p ∈ memN a bs iss, p ∈ μ) (hb : ∀ fs, (b, fs) ∉ μ) :
    (a :: (bs ++ [b])).Nodup ∧ ∀ p ∈ memN a (bs ++ [b]) (iss ++ [is]), p ∈ setM ((b, is.map D.int) :: μ) a (bs.map rawR ++ [rawR b]) := by
  have nb : b ∉ a :: bs := fun q => by
    obtain ⟨ds, h⟩ := memN_key (iss := iss) hl b q
    exact hb ds (hm _ h)
  obtain ⟨n1, n2⟩ := List.nodup_cons.mp hn
  have nba : b ≠ a := fun q => nb (q ▸ List.mem_cons_self)
  constructor
  · refine List.nodup_cons.mpr ⟨fun q => ?_, List.nodup_append.mpr ⟨n2, by simp, fun x hx y hy q => nb (List.mem_cons_of_mem _ (List.mem_singleton.mp hy ▸ q ▸ hx))⟩⟩
    rcases List.mem_append.mp q with q | q
    · exact n1 q
    · exact nba (List.mem_singleton.mp q).symm
  · intro p hp
    rcases List.mem_cons.mp hp with rfl | hp
    · exact List.mem_map.mpr ⟨(a, bs.map rawR), List.mem_cons_of_mem _ (hm _ List.mem_cons_self), by simp [List.map_append]⟩
    · obtain ⟨p1, p2⟩ := p
      obtain ⟨_, is', h1, h2⟩ := mem_memI hp
      rw [List.zip_append hl] at h1
      rcases List.mem_append.mp h1 with q | q
      · have hne : p1 ≠ a := fun z => n1 (z ▸ (List.of_mem_zip q).1)
        exact List.mem_map.mpr ⟨(p1, p2), List.mem_cons_of_mem _ (hm _ (List.mem_cons_of_mem _ (h2 ▸ List.mem_map.mpr ⟨_, q, rfl⟩))), by simp [hne]⟩
      · have q : (p1, is') ∈ [(b, is)] := q
        rw [List.mem_singleton] at q
        cases q
        exact List.mem_map.mpr ⟨(b, is.map D.int), List.mem_cons_self, by simp [nba, h2]⟩
end
end Mine
end

/-! # L2a -/
section
open PySem PySem.Calls PyProof.Rows PySem.W
set_option autoImplicit false
set_option linter.unusedVariables false
namespace Mine
def st (i : Nat) : Stmt := (PySem.Challenge.pw_uf060024_02.main.body)[i]?.getD (.Pass ⟨0,0,0,0⟩)

theorem boot_min : bootBuiltins "min" = some (.builtin "min") := by decide +kernel
theorem boot_isi : bootBuiltins "isinstance" = some (.builtin "isinstance") := by decide +kernel
theorem boot_int : bootBuiltins "int" = some (.type "int") := by decide +kernel
theorem boot_bool : bootBuiltins "bool" = some (.type "bool") := by decide +kernel

/-! ## plain -/
def countL (x : Int) : Int := if (x.fdiv 13).fmod 7 = 1 then ([10 ^ 20 + (x.fdiv 91).fmod 100, -1 - (x.fdiv 91).fmod (10 ^ 20)] : List Int).getD ((x.fdiv 91).fmod 2).toNat 0 else x.fmod 13 - 2
def thingsL (ns : List Int) : Int := if ((ns.getD 1 0).fdiv 7).fmod 4 = 1 then ([12, 13, 12, 10, 14] : List Int).getD (((ns.getD 1 0).fdiv 28).fmod 5).toNat 0 else (ns.getD 1 0).fmod 7
def numL (ns : List Int) (k : Int) : Int := ((ns.getD (6 + k.fmod 6).toNat 0 + 31 * k.fdiv 6) * 48271).fmod 1000003
def rowL (ns : List Int) (below k : Int) : List Int := (upto ((numL ns k).fmod 10)).map fun j => ((numL ns k).fdiv (1 + 7 * j)).fmod below
def rowsL (ns : List Int) (below : Int) : List (List Int) := (upto (thingsL ns)).map (rowL ns below)

section
variable {c : Cx} {f : Addr}

theorem cell_at_ok (hf : FnAt c f (st 14)) (hlen : c.mg "len" = none) {ns : List Int} {i : Int} (h0 : 0 ≤ i) (hl : ns.length ≤ 63) : Fn c 1 f [I ns, .int i] (.int (ns.getD i.toNat 0)) := by
  refine fn_of hf (binds2 fun _ _ _ _ _ _ _ _ _ => rfl) (fun qn cdv L => ?_)
  refine ex_seq (ex_if (tr_cmp (ev_name rfl rfl) (ev_len hlen boot_len (ev_name rfl rfl) (by simp; omega)) (fun X A s v u hA h1 h2 => cmp_lt h1 h2)) (fun hb => ?_) (fun hb => ?_))
  · have hb' : i < (ns.length : Int) := by simpa using hb
    have hi : i.toNat < ns.length := by omega
    refine ex_seq (ex_return (ev_item (ev_name rfl rfl) (ev_name rfl rfl) h0 (d := .int (ns.getD i.toNat 0)) ?_ (by simp; omega)) rfl)
    rw [List.getElem?_map, List.getElem?_eq_getElem hi]
    simp [List.getD_eq_getElem?_getD, hi]
  · have hb' : ¬ i < (ns.length : Int) := by simpa using hb
    refine ex_nil (ex_seq (ex_return ev_int ?_))
    have : ns[i.toNat]? = none := by rw [List.getElem?_eq_none_iff]; omega
    simp [retOf, List.getD_eq_getElem?_getD, this]

theorem two_at {a b : Int} {i : Int} (h0 : 0 ≤ i) (h1 : i < 2) : ([.int a, .int b] : List D)[i.toNat]? = some (.int (([a, b] : List Int).getD i.toNat 0)) := by
  have : i = 0 ∨ i = 1 := by omega
  rcases this with rfl | rfl <;> rfl

theorem count_ok (hf : FnAt c f (st 15)) (x : Int) : Fn c 1 f [.int x] (.int (countL x)) := by
  refine fn_of hf (binds1 fun _ _ _ _ _ _ _ _ => rfl) (fun qn cdv L => ?_)
  unfold countL
  refine ex_seq (ex_if (tr_cmp (ev_mod (ev_fdiv (ev_name rfl rfl) ev_int (by decide) (by decide)) ev_int (by decide)) ev_int (fun X A s v u hA h1 h2 => cmp_eq h1 h2)) (fun hb => ?_) (fun hb => ?_))
  · have hb' : (x.fdiv 13).fmod 7 = 1 := by simpa using hb
    rw [if_pos hb']
    refine ex_seq (ex_return (ev_item (ev_list (.cons (ev_add (ev_pow ev_int ev_int (by decide) (by decide) (by decide)) (ev_mod (ev_fdiv (ev_name rfl rfl) ev_int (by decide) (by decide)) ev_int (by decide))) (.cons (ev_sub (ev_neg ev_int) (ev_mod (ev_fdiv (ev_name rfl rfl) ev_int (by decide) (by decide)) (ev_pow ev_int ev_int (by decide) (by decide) (by decide)) (by decide))) .nil rfl) rfl) (Nat.le_of_ble_eq_true rfl))
      (ev_mod (ev_fdiv (ev_name rfl rfl) ev_int (by decide) (by decide)) ev_int (by decide)) (fmod_nn (by decide)) (two_at (fmod_nn (by decide)) (fmod_lt (by decide))) (Nat.le_of_ble_eq_true rfl)) rfl)
  · have hb' : ¬ (x.fdiv 13).fmod 7 = 1 := by simpa using hb
    rw [if_neg hb']
    exact ex_nil (ex_seq (ex_return (ev_sub (ev_mod (ev_name rfl rfl) ev_int (by decide)) ev_int) rfl))

theorem five_at {i : Int} (h0 : 0 ≤ i) (h1 : i < 5) : ([.int 12, .int 13, .int 12, .int 10, .int 14] : List D)[i.toNat]? = some (.int (([12, 13, 12, 10, 14] : List Int).getD i.toNat 0)) := by
  have : i = 0 ∨ i = 1 ∨ i = 2 ∨ i = 3 ∨ i = 4 := by omega
  rcases this with rfl | rfl | rfl | rfl | rfl <;> rfl
theorem five_le {i : Int} (h0 : 0 ≤ i) (h1 : i < 5) : 0 ≤ ([12, 13, 12, 10, 14] : List Int).getD i.toNat 0 ∧ ([12, 13, 12, 10, 14] : List Int).getD i.toNat 0 ≤ 14 := by
  have : i = 0 ∨ i = 1 ∨ i = 2 ∨ i = 3 ∨ i = 4 := by omega
  rcases this with rfl | rfl | rfl | rfl | rfl <;> decide
theorem things_le (ns : List Int) : 0 ≤ thingsL ns ∧ thingsL ns ≤ 14 := by
  unfold thingsL
  split
  · exact five_le (fmod_nn (by decide)) (fmod_lt (by decide))
  · have h1 := fmod_lt (a := ns.getD 1 0) (b := 7) (by decide)
    have h2 := fmod_nn (a := ns.getD 1 0) (b := 7) (by decide)
    omega
theorem rows_len (ns : List Int) (b : Int) : (rowsL ns b).length ≤ 14 := by
  unfold rowsL
  have := things_le ns
  rw [List.length_map, upto_len]; omega

theorem rows_by_ok {fc : Addr} (hf : FnAt c f (st 16)) (hc : FnAt c fc (st 14)) (g0 : c.mg "_law_cell_at" = some (.ref fc)) (hlen : c.mg "len" = none) (hr : c.mg "range" = none) {ns : List Int} {below : Int} (hl : ns.length ≤ 63) (hb : 0 < below) : FnNN c 2 f [I ns, .int below] (rowsL ns below) := by
  refine fnNN_of hf (binds2 fun _ _ _ _ _ _ _ _ _ => rfl) (fun qn cdv L => ?_)
  refine ex_seq (ex_assign (ev_mod (ev_call g0 hc (.cons (ev_name rfl rfl) (.cons ev_int .nil rfl) rfl) (cell_at_ok hc hlen (by decide) hl)) ev_int (by decide)) ?_)
  refine ex_seq (ex_if_join [("_law_things", .int (thingsL ns)), ("_law_below", .int below), ("_law_script", I ns)] [] (tr_cmp (ev_mod (ev_fdiv (ev_call g0 hc (.cons (ev_name rfl rfl) (.cons ev_int .nil rfl) rfl) (cell_at_ok hc hlen (by decide) hl)) ev_int (by decide) (by decide)) ev_int (by decide)) ev_int (fun X A s v u hA h1 h2 => cmp_eq h1 h2)) (fun hq => ?_) (fun hq => ?_) fun ρ' hρ => ?_)
  · have hq' : ((ns.getD 1 0).fdiv 7).fmod 4 = 1 := by simpa using hq
    refine ex_seq (ex_assign (ev_item (ev_list (.cons ev_int (.cons ev_int (.cons ev_int (.cons ev_int (.cons ev_int .nil rfl) rfl) rfl) rfl) rfl) (by decide)) (ev_mod (ev_fdiv (ev_call g0 hc (.cons (ev_name rfl rfl) (.cons ev_int .nil rfl) rfl) (cell_at_ok hc hlen (by decide) hl)) ev_int (by decide) (by decide)) ev_int (by decide)) (fmod_nn (by decide)) (five_at (fmod_nn (by decide)) (fmod_lt (by decide))) (by decide)) (ex_nil ⟨has_of (hasAll_cons ?_ (hasAll_cons rfl (hasAll_cons rfl hasAll_nil))), rfl⟩))
    unfold thingsL; rw [if_pos hq']; rfl
  · have hq' : ¬ ((ns.getD 1 0).fdiv 7).fmod 4 = 1 := by simpa using hq
    refine ex_nil ⟨has_of (hasAll_cons ?_ (hasAll_cons rfl (hasAll_cons rfl hasAll_nil))), rfl⟩
    unfold thingsL; rw [if_neg hq']; rfl
  · refine ex_has ?_ hρ
    refine ex_seq (ex_assignF evF_nil fun a _ => ?_)
    have ht := things_le ns
    refine ex_seq (ex_for (ds := (upto (thingsL ns)).map .int) (src_range hr boot_range (ev_name rfl rfl) (by omega) (by omega)) ?_)
    refine turns_st (σ := Mem × List Addr × List (List Int)) (fun _ => [("_law_rows", rawR a), ("_law_below", .int below), ("_law_script", I ns)]) (fun t => t.1)
      (fun rest t => (∀ k ∈ rest, 0 ≤ k ∧ k < 14) ∧ t.2.2 ++ rest.map (rowL ns below) = rowsL ns below ∧ t.2.1.length = t.2.2.length ∧ (a :: t.2.1).Nodup ∧ ∀ p ∈ memN a t.2.1 t.2.2, p ∈ t.1) ?_ ?_ (upto (thingsL ns)) ([(a, [])], [], []) _ ⟨fun k hk => ?_, rfl, rfl, by simp, fun p hp => ?_⟩ (has_of (hasAll_cons rfl (hasAll_cons rfl (hasAll_cons rfl hasAll_nil))))
    · rintro k rest ⟨μ, bs, iss⟩ ⟨j0, j1, j2, j3, j4⟩
      dsimp only at j1 j2 j3 j4 ⊢
      obtain ⟨k0, k1⟩ := j0 k (.head _)
      have hbl : bs.length ≤ 16777216 := by
        have h1 := congrArg List.length j1
        have h2 := rows_len ns below
        rw [List.length_append] at h1
        omega
      have hnum := fmod_nn (a := (ns.getD (6 + k.fmod 6).toNat 0 + 31 * k.fdiv 6) * 48271) (b := 1000003) (by decide)
      have hk6 := fmod_nn (a := k) (b := 6) (by decide)
      refine ex_seq (ex_assign (d := .int (numL ns k)) (ev_mod (ev_mul (ev_add (ev_call g0 hc (.cons (ev_name rfl rfl) (.cons (ev_add ev_int (ev_mod (ev_name rfl rfl) ev_int (by decide))) .nil rfl) rfl) (cell_at_ok hc hlen (by omega) hl)) (ev_mul ev_int (ev_fdiv (ev_name rfl rfl) ev_int (by decide) (by decide)) (mul_left (by decide)))) ev_int (mul_right (by decide))) ev_int (by decide)) ?_)
      refine ex_seq (ex_assign (ev_mod (ev_name rfl rfl) ev_int (by decide)) ?_)
      have hs0 := fmod_nn (a := numL ns k) (b := 10) (by decide)
      have hs1 := fmod_lt (a := numL ns k) (b := 10) (by decide)
      have ef : ((rowL ns below k).map D.int) = (((upto ((numL ns k).fmod 10)).filter fun _ => true).map fun j => ((numL ns k).fdiv (1 + 7 * j)).fmod below).map D.int := by
        rw [List.filter_eq_self.mpr (fun _ _ => rfl)]; rfl
      refine ex_seq (ex_appendF (es := (rowL ns below k).map D.int) (ds := bs.map rawR) rfl (j4 _ (.head _)) (ef ▸ evF_compM (g := D.int) (h := D.int) inj_int (src_range hr boot_range (ev_name rfl rfl) (by omega) (by omega)) (fun C cl j hj => tests_nil) (fun C cl j hj _ => ?_) ?_) (by rw [List.length_map]; exact hbl) fun b hb' => ex_nil ?_)
      · have hj' := mem_upto.mp hj
        exact ev_mod (ev_fdiv (ev_name rfl rfl) (ev_add ev_int (ev_mul ev_int (ev_name rfl rfl) (mul_left (by decide)))) (by omega) (by omega)) (ev_name rfl rfl) (by omega)
      · rw [upto_len]; omega
      · obtain ⟨n1, n2⟩ := memN_snoc (is := rowL ns below k) j2 j3 j4 hb'
        refine ⟨(_, bs ++ [b], iss ++ [rowL ns below k]), ⟨fun k' h' => j0 k' (.tail _ h'), ?_, ?_, n1, n2⟩, has_of (hasAll_cons rfl (hasAll_cons rfl (hasAll_cons rfl hasAll_nil))), rfl⟩
        · rw [List.append_assoc]; exact j1
        · simp [j2]
    · rintro ⟨μ, bs, iss⟩ ρ'' ⟨j0, j1, j2, j3, j4⟩ hρ'
      dsimp only at j1 j2 j3 j4 ⊢
      rw [List.map_nil, List.append_nil] at j1
      subst j1
      refine ex_has ?_ hρ'
      exact ex_seq (ex_return (ev_name rfl rfl) ⟨a, bs, rfl, j2, j3, j4⟩)
    · have := mem_upto.mp hk
      omega
    · simpa [memN, memI] using hp
end
end Mine
end

/-! # L2b -/
section
open PySem PySem.Calls PyProof.Rows PySem.W
set_option autoImplicit false
set_option linter.unusedVariables false
namespace Mine
def methOf : Stmt → Nat → Stmt
  | .ClassDef _ _ _ body _ _ _ _ _ _ _, j => body[j]?.getD (.Pass ⟨0,0,0,0⟩)
  | s, _ => s
def meth (j : Nat) : Stmt := methOf (st 11) j
abbrev tabD (C : Addr) (many : Int) (R : List (List Int)) : D := .inst C ["rows", "many"] [RR R, .int many]
structure MethK (c : Cx) (K : Frag) (C : Addr) (name : Str) (st : Stmt) (f : Addr) : Prop where
  find : findIn K (.ref C) name = some (some (.ref f))
  fn : typeIn K (.ref f) = some (.type "function")
  at_ : FnAt c f st
structure TabK (c : Cx) (K : Frag) (C : Addr) : Prop where
  cls : ClsK c K C
  many : findIn K (.ref C) "many" = some none
  rows : findIn K (.ref C) "rows" = some none
  sa : findIn K (.ref C) "__setattr__" = some (some (.builtin "object.__setattr__"))
  over : plainOver K C = true
theorem TabK.on {c : Cx} {K : Frag} {C : Addr} {h : Heap} (H : TabK c K C) (kb : Sub c.base h) : TabK (c.on h kb) K C := ⟨H.cls.on kb, H.many, H.rows, H.sa, H.over⟩
theorem MethK.on {c : Cx} {K : Frag} {C : Addr} {name : Str} {st : Stmt} {f : Addr} {h : Heap} (H : MethK c K C name st f) (kb : Sub c.base h) : MethK (c.on h kb) K C name st f := ⟨H.find, H.fn, H.at_.on kb⟩
abbrev Exc (c : Cx) (x : Str) (C : Addr) : Prop := OwnCls x C veMro "ValueError.__new__" c.mg c.base
theorem Exc.on {c : Cx} {x : Str} {C : Addr} {h : Heap} (O : Exc c x C) (kb : Sub c.base h) : Exc (c.on h kb) x C := OwnCls.keeps O kb

def badM (many m : Int) : Bool := decide (m < 0) || decide (many ≤ m)
theorem badM_false {many m : Int} : badM many m = false ↔ 0 ≤ m ∧ m < many := by
  unfold badM
  rw [Bool.or_eq_false_iff, decide_eq_false_iff_not, decide_eq_false_iff_not]; omega

section
variable {c : Cx} {f C Ce : Addr} {K : Frag}

theorem told_ok (hf : FnAt c f (st 10)) (g1 : c.mg "sorted" = none) (g2 : c.mg "set" = none) (S : List Int) (h : S.length < 64) : FnF c 1 f [I S] ((norm S).map .int) := by
  refine fnF_of hf (binds1 fun _ _ _ _ _ _ _ _ => rfl) (fun qn cdv L => ?_)
  exact ex_seq (ex_returnF (evF_sortedSet sortLt64 g1 boot_sorted g2 boot_set (ev_name rfl rfl) (by omega) (Nat.lt_of_le_of_lt (norm_length_le S) h)) fun a => ⟨a, rfl, .head _⟩)

theorem need_tr (H : ClsK c K C) (hm : findIn K (.ref C) "many" = some none) {env : Env} {ρ : Vars} {ns : List Str} {ds : List D} {many m : Int} (hl : (ns.zip ds).lookup ("many" : Str) = some (.int many)) {p1 p2 p3 p4 p5 p6 p7 : Pos} {k1 : Nat}
    (h1 : ρ.lookup ("mark" : Str) = some (.int m)) (h2 : ρ.lookup ("self" : Str) = some (.inst C ns ds)) :
    Tr c 0 env ρ [] (.BoolOp .Or [.Compare (.Name "mark" p1) [.Lt] [.Constant (.int 0) k1 p2] p3, .Compare (.Name "mark" p4) [.GtE] [.Attribute (.Name "self" p5) "many" p6] p7] p3) (badM many m) := by
  unfold badM
  refine tr_or (a := decide (m < 0)) (tr_cmp (ev_name h1 rfl) ev_int fun X A s v u hA h1 h2 => cmp_lt h1 h2) (fun hb => ?_) fun hb => by rw [hb]; rfl
  rw [hb, Bool.false_or]
  refine tr_or (a := decide (many ≤ m)) (tr_cmp (ev_name h1 rfl) (ev_attr H hm (ev_name h2 rfl) hl) fun X A s v u hA h1 h2 => cmp_ge h1 h2) (fun hb => ?_) fun hb => hb
  rw [hb]; exact tr_or0

theorem need_ok (H : ClsK c K C) (hm : findIn K (.ref C) "many" = some none) (hf : FnAt c f (meth 1)) {ns : List Str} {ds : List D} {many : Int} {S : List Int} (hl : (ns.zip ds).lookup ("many" : Str) = some (.int many)) (hS : ∀ m ∈ S, badM many m = false) :
    Fn c 1 f [.inst C ns ds, I S] .none := by
  refine fn_of hf (binds2 fun _ _ _ _ _ _ _ _ _ => rfl) (fun qn cdv L => ?_)
  refine ex_seq (ex_for (ds := S.map .int) (src_list (ev_name rfl rfl)) ?_)
  refine turns_st (σ := Unit) (fun _ => [("self", .inst C ns ds)]) (fun _ => []) (fun l _ => ∀ m ∈ l, badM many m = false) ?_ ?_ S () _ hS (has_of (hasAll_cons rfl hasAll_nil))
  · intro a rest t hJ
    refine ex_seq (ex_if (need_tr H hm hl rfl rfl) (fun h => ?_) (fun _ => ?_))
    · rw [hJ a (.head _)] at h; cases h
    · exact ex_nil (ex_nil ⟨(), fun m hm' => hJ m (.tail _ hm'), has_of (hasAll_cons rfl hasAll_nil), rfl⟩)
  · intro t ρ' hJ hρ
    exact ex_nil rfl

theorem need_bad (H : ClsK c K C) (hm : findIn K (.ref C) "many" = some none) (O : Exc c "BadMark" Ce) (hf : FnAt c f (meth 1)) {ns : List Str} {ds : List D} {many : Int} {S : List Int} (hl : (ns.zip ds).lookup ("many" : Str) = some (.int many)) (hS : ∃ m ∈ S, badM many m = true) :
    FnR c 1 f [.inst C ns ds, I S] Ce := by
  refine fnR_of hf (binds2 fun _ _ _ _ _ _ _ _ _ => rfl) (fun qn cdv L l => ?_)
  refine exR_seq (ex1R_for (ds := S.map .int) (src_list (ev_name rfl rfl)) ?_)
  have hρ : Has [("self", .inst C ns ds)] ([("marks", I S), ("self", .inst C ns ds)] : Vars) := has_of (hasAll_cons rfl hasAll_nil)
  show TurnsG _ _ _ _ ([("marks", I S), ("self", .inst C ns ds)] : Vars) []
  generalize ([("marks", I S), ("self", .inst C ns ds)] : Vars) = ρ at hρ
  obtain ⟨m, hm1, hm2⟩ := hS
  induction S generalizing ρ with
  | nil => cases hm1
  | cons a rest ih =>
    have hs : ((("mark", D.int a) :: ρ) : Vars).lookup ("self" : Str) = some (.inst C ns ds) := by
      have := hρ "self" _ (by rfl)
      rw [List.lookup_cons]; exact this
    refine exR_seq (ex1R_if (need_tr H hm hl rfl hs) (fun h => ?_) (fun h => ?_))
    · exact exR_seq (ex1R_raise O ev_str)
    · refine exR_of (ex_nil (exR_of (ex_nil ?_)))
      refine ih (ρ := ("mark", D.int a) :: ρ) (fun x d e => ?_) ?_
      · rw [List.lookup_cons] at e ⊢
        cases hx : x == ("self" : Str) with
        | true => rw [hx] at e; cases e; rw [beq_iff_eq.mp hx]; exact hs
        | false => rw [hx] at e; cases e
      · rcases List.mem_cons.mp hm1 with q | q
        · subst q; rw [hm2] at h; cases h
        · exact q
end
end Mine
end

/-! # L2c -/
section
open PySem PySem.Calls PyProof.Rows PySem.W
set_option autoImplicit false
set_option linter.unusedVariables false
namespace Mine

theorem zip_set {n : Str} {v : Value} {ns : List Str} {us : List Value} : (fun y => if y = n then some v else (ns.zip us).lookup y) = fun y => ((n :: ns).zip (v :: us)).lookup y := by
  funext y
  rw [List.zip_cons_cons, List.lookup_cons]
  by_cases h : y = n
  · subst h; simp
  · have : (y == n) = false := by simpa using h
    rw [this, if_neg h]
theorem New2.keepAt {s s₁ s' : Shared} {a : Addr} {bs : List Addr} {iss : List (List Int)} (N : New2 s s₁ a bs iss) (k : ∀ b ∈ a :: bs, ∀ o, s₁.heap.get? b = some o → s'.heap.get? b = some o) : New2 s s' a bs iss := by
  obtain ⟨o, e, q⟩ := N.outer
  exact ⟨N.new, N.nodup, ⟨o, k a (.head _) o e, q⟩, forall₂_mono N.inner fun b is m x => x.keep fun o e => k b (.tail _ m) o e⟩

section
variable {c : Cx} {k : Nat} {env : Env} {ρ : Vars} {K : Frag} {C : Addr} {X : Addr → Prop} {A : Around} {E : Value → Shared → Prop} {s : Shared} {x dx : Addr} {m : Str → Option Value} {Q : Flow → Shared → Prop}
theorem step_selfN {self attr : Str} {px apos pos : Pos} {e : Expr} {iss : List (List Int)} {ns : List Str} (I : MkI c X env x dx) (S : St c X env ρ [] s) (N : Mkg C x dx m s) (hA : Room k A) (kx : K.In c.base) (hsa : findIn K (.ref C) "__setattr__" = some (some (.builtin "object.__setattr__")))
    (hp : plainOver K C = true) (hn : findIn K (.ref C) attr = some none) (hd : (clsIn K C).any (·.hasDict) = true) (hw : Within m ns) (hz : ns.length ≤ 1000) (he : EvNN c k env ρ [] e iss) (hself : ρ.lookup self = some (.raw (.ref x)))
    (h : ∀ a bs s', GoI env dx s s' → Mkg C x dx (fun y => if y = attr then some (.ref a) else m y) s' → New2 s s' a bs iss → Q .next s') (hdb : (self == ("__debug__" : Str)) = false := by decide)
    (hs : swapsWith e (some (.Attribute (.Name self px) attr apos)) pos.line env = pure false := by rfl) : wpAny (model c.prog c.w) A (exec (.Assign [.Attribute (.Name self px) attr apos] e pos) env) Q E s := by
  refine plainObj_wpAny_Assign_Attribute (wpAny_mono (he _ _ s E hA S.rc) (fun v s₁ q => ?_) fun _ _ e => e) hs
  obtain ⟨k₁, a, bs, rfl, N2⟩ := q
  refine gives_bind (ev_name hself hdb _ _ s₁ hA (S.kp k₁).rc) fun u s₂ k₂ r₂ => ?_
  have S₂ := (S.kp k₁).kp k₂
  have kk := k₁.trans k₂
  cases r₂
  refine set_attr (kx.keeps S₂.base) hsa hp hn hd (kk.sub _ _ N.x) (N.ns.at fun o e => kk.sub _ _ e) hw hz fun h' t' hns' hsb' => ?_
  have hdx : ∃ o, s.heap.get? dx = some o := let ⟨o, _, _, e, _⟩ := N.ns.ns; ⟨o, e⟩
  refine h a bs _ ⟨kk.same.trans ⟨rfl, rfl⟩, fun b o n _ e => hsb'.extBut b o n (kk.sub _ _ e)⟩ ⟨hsb'.extBut _ _ I.ne (kk.sub _ _ N.x), hns'⟩ (N2.keepAt fun b hb o e => hsb'.extBut b o (fun q => ?_) (k₂.sub b o e))
  obtain ⟨o', e'⟩ := hdx
  exact no1 (N2.new b hb) (q ▸ e')
end

def badS (many : Int) (n : Nat) : Bool := decide (many < 0) || (decide (8 < many) || decide (12 < (n : Int)))
section
variable {c : Cx} {f C Ce : Addr} {K : Frag}
def stm (i : Nat) : Stmt := (bodyOf (meth 0))[i]?.getD (.Pass ⟨0,0,0,0⟩)
abbrev rho0 (x : Addr) (many : Int) (R : List (List Int)) : Vars := [("rows", RR R), ("many", .int many), ("self", .raw (.ref x))]

theorem size_tr {k : Nat} {env : Env} {t1 t2 : Tok} (g2 : c.mg "len" = none) (g5 : c.mg "MOST_MARKS" = some (.int 8 t1)) (g6 : c.mg "MOST_THINGS" = some (.int 12 t2)) {many : Int} {R : List (List Int)} (hR : R.length ≤ 1000) (x : Addr) {p1 p2 p3 p4 p5 p6 p7 p8 p9 p10 p11 : Pos} {k1 : Nat}
    (h1 : env.kindOf "MOST_MARKS" = some .globalImplicit) (h2 : env.kindOf "MOST_THINGS" = some .globalImplicit) (h3 : env.kindOf "len" = some .globalImplicit) :
    Tr c k env (rho0 x many R) [] (.BoolOp .Or [.Compare (.Name "many" p1) [.Lt] [.Constant (.int 0) k1 p2] p3, .Compare (.Name "many" p4) [.Gt] [.Name "MOST_MARKS" p5] p6, .Compare (.Call (.Name "len" p7) [.Name "rows" p8] [] p9) [.Gt] [.Name "MOST_THINGS" p10] p11] p3) (badS many R.length) := by
  unfold badS
  refine tr_or (a := decide (many < 0)) (tr_cmp (ev_name rfl rfl) ev_int fun X A s v u hA h1 h2 => cmp_lt h1 h2) (fun hb => ?_) fun hb => by rw [hb]; rfl
  rw [hb, Bool.false_or]
  refine tr_or (a := decide (8 < many)) (tr_cmp (ev_name rfl rfl) (ev_globalInt g5 h1) fun X A s v u hA h1 h2 => cmp_gt h1 h2) (fun hb => ?_) fun hb => by rw [hb]; rfl
  rw [hb, Bool.false_or]
  refine tr_or (a := decide (12 < (R.length : Int))) (tr_cmp (ev_len (ds := R.map I) g2 boot_len (ev_name rfl rfl) (by rw [List.length_map]; omega) (hx := h3)) (ev_globalInt g6 h2) fun X A s v u hA h1 h2 => ?_) (fun hb => ?_) fun hb => hb
  · have := cmp_gt (c := c) (A := A) h1 h2
    rw [List.length_map] at this
    exact this
  · rw [hb]; exact tr_or0

/-! ## it raises -/
theorem init_size {t1 t2 : Tok} (O : Exc c "BadSize" Ce) (g2 : c.mg "len" = none) (g5 : c.mg "MOST_MARKS" = some (.int 8 t1)) (g6 : c.mg "MOST_THINGS" = some (.int 12 t2)) (hf : FnAt c f (meth 0)) {many : Int} {R : List (List Int)} (hR : R.length ≤ 1000) (hb : badS many R.length = true) : InitX c 2 f C [.int many, RR R] Ce := by
  intro X A s vs x dx l hA hfr ff hbase hlive hXx hXd hne hbx hbd hx hns nx nd hvs
  have F : FnR c 2 f [.raw (.ref x), .int many, RR R] Ce := fnR_of hf (binds3 fun _ _ _ _ _ _ _ _ _ _ => rfl) fun qn cdv L l => by
    refine exR_seq (ex1R_if (size_tr g2 g5 g6 hR x rfl rfl rfl) (fun _ => exR_seq (ex1R_raise O ev_str)) (fun h => ?_))
    rw [hb] at h; cases h
  refine codeAny_mono (F X A s (.ref x :: vs) l hA hfr ff hbase hlive (.cons (.raw _) hvs)) fun r s' z => ?_
  obtain ⟨e, rfl, z⟩ := z
  exact ⟨e, rfl, z.of_kp (fun b o _ e => e) (Same.refl s) (fun _ _ _ _ z => nomatch z) fun b m => List.mem_singleton.mp m ▸ nd⟩

theorem init_forR {fn : Addr} {l : List Env} (H : TabK c K C) (hn : MethK c K C "need_marks" (meth 1) fn) (O : Exc c "BadMark" Ce) {many : Int} {R : List (List Int)} (hr : ∃ r ∈ R, ∃ m ∈ r, badM many m = true) {x dx : Addr} {t : Tok} (hx : c.base.get? x = some (instObj C dx)) (hns : c.base.Ns dx (fun y => ((["many"] : List Str).zip ([.int many t] : List Value)).lookup y)) (qn : Str) (cdv : Value) (L : Addr) {Q : Out → Vars → Mem → Prop} :
    Ex1R c 1 l Ce (fenv (meth 0) qn cdv L f) (rho0 x many R) [] (stm 2) Q := by
  refine ex1R_for (ds := R.map I) (src_list (ev_name rfl rfl)) ?_
  have hρ : Has [("self", .raw (.ref x))] (rho0 x many R) := has_of (hasAll_cons rfl hasAll_nil)
  generalize rho0 x many R = ρ at hρ
  obtain ⟨r, hr1, hr2⟩ := hr
  induction R generalizing ρ with
  | nil => cases hr1
  | cons a rest ih =>
    have hs : ((("row", I a) :: ρ) : Vars).lookup ("self" : Str) = some (.raw (.ref x)) := by
      have := hρ "self" _ (by rfl)
      rw [List.lookup_cons]; exact this
    have hsc : ∀ d ∈ [D.int many], scalar d = true := fun d hd => by rcases List.mem_singleton.mp hd with rfl; rfl
    by_cases hb : ∃ m ∈ a, badM many m = true
    · exact exR_seq (ex1R_selfMeth (n := "self") H.cls hn.find hn.fn hn.at_ hx hns rfl (.cons (.int _ _) .nil) hsc hs (.cons (ev_name rfl rfl) .nil rfl) (need_bad (many := many) H.cls H.many O hn.at_ rfl hb))
    · have hok : ∀ m ∈ a, badM many m = false := fun m hm => Bool.eq_false_iff.mpr fun q => hb ⟨m, hm, q⟩
      refine exR_seq (ex1R_of (ex_expr (ev_lendI (n := "self") hx hns rfl (.cons (.int _ _) .nil) hsc hs (ev_meth H.cls hn.find hn.fn hn.at_ (ev_name rfl rfl) (.cons (ev_name rfl rfl) .nil rfl) (need_ok (many := many) H.cls H.many hn.at_ rfl hok))) (exR_of (ex_nil ?_))))
      refine ih (ρ := ("row", I a) :: ρ) (fun y d e => ?_) ?_
      · rw [List.lookup_cons] at e ⊢
        cases hy : y == ("self" : Str) with
        | true => rw [hy] at e; cases e; rw [beq_iff_eq.mp hy]; exact hs
        | false => rw [hy] at e; cases e
      · rcases List.mem_cons.mp hr1 with q | q
        · subst q; exact absurd hr2 hb
        · exact q

theorem init_if {t1 t2 : Tok} (g2 : c.mg "len" = none) (g5 : c.mg "MOST_MARKS" = some (.int 8 t1)) (g6 : c.mg "MOST_THINGS" = some (.int 12 t2)) {many : Int} {R : List (List Int)} (hR : R.length ≤ 1000) (hb : badS many R.length = false) (x : Addr) (qn : Str) (cdv : Value) (L : Addr) :
    Ex1 c 1 (fenv (meth 0) qn cdv L f) (rho0 x many R) [] (stm 0) (fun o ρ' μ' => o = .next ∧ Has (rho0 x many R) ρ' ∧ μ' = []) := by
  refine ex_if (size_tr g2 g5 g6 hR x rfl rfl rfl) (fun h => ?_) (fun _ => ex_nil ⟨rfl, Has.refl _, rfl⟩)
  rw [hb] at h; cases h

theorem init_mark {fn : Addr} {t1 t2 : Tok} (H : TabK c K C) (hn : MethK c K C "need_marks" (meth 1) fn) (O : Exc c "BadMark" Ce) (g2 : c.mg "len" = none) (g5 : c.mg "MOST_MARKS" = some (.int 8 t1)) (g6 : c.mg "MOST_THINGS" = some (.int 12 t2)) (hf : FnAt c f (meth 0)) {many : Int} {R : List (List Int)} (hR : R.length ≤ 1000) (hb : badS many R.length = false)
    (hr : ∃ r ∈ R, ∃ m ∈ r, badM many m = true) : InitX c 2 f C [.int many, RR R] Ce := by
  intro X A s vs x dx l hA hfr ff hbase hlive hXx hXd hne hbx hbd hx hns nx nd hvs
  refine fn_enter (ds := [.raw (.ref x), .int many, RR R]) hf (binds3 fun _ _ _ _ _ _ _ _ _ _ => rfl) rfl hA hbase hlive (.cons (.raw _) hvs) fun qn cdv L s₁ S₁ k₁ newM hA' => ?_
  have I : MkI c X (fenv (meth 0) qn cdv L f) x dx := ⟨hXd, hbd, fun m => no1 (newM x m) hx, fun m => by obtain ⟨o, _, _, e, _⟩ := hns; exact no1 (newM dx m) e, hne⟩
  have hfr' : (A.deeper (fenv (meth 0) qn cdv L f)).frames = some (fenv (meth 0) qn cdv L f :: l) := Around.frames_deeper hfr
  refine wpAny_execs_cons (step_ex I S₁ ⟨k₁.sub _ _ hx, hns.at fun o e => k₁.sub _ _ e⟩ hA' (init_if g2 g5 g6 hR hb x qn cdv L) fun s₂ S₂ G₂ N₂ => ?_)
  refine wpAny_execs_cons (step_self I S₂ N₂ hA' H.cls.kx H.sa H.over H.many H.cls.dict Within.nil (by decide) (d := .int many) (ev_name rfl rfl) rfl fun v s₃ S₃ G₃ N₃ r₃ => ?_)
  obtain ⟨t, rfl⟩ := rd_int r₃
  have z : (fun y => if y = ("many" : Str) then some (Value.int many t) else none) = fun y => ((["many"] : List Str).zip ([.int many t] : List Value)).lookup y := zip_set (ns := []) (us := [])
  rw [z] at N₃
  have G := G₂.trans G₃
  have kp : ∀ b o, b ≠ dx → s.heap.get? b = some o → s₃.heap.get? b = some o := fun b o n e => G.keep b o n (fun m => no1 (newM b m) e) (k₁.sub b o e)
  have fdx : ∀ b ∈ frs l, b ≠ dx := fun b m q => nd (q ▸ m)
  have ff₃ : FF l s₃.heap := ff.keep fun b m o e => kp b o (fdx b m) e
  obtain ⟨hb', kb, S₄, keepb⟩ := S₃.on
  refine wpAny_execs_cons (wpAny_mono (init_forR (Q := fun _ _ _ => False) (H.on kb) (hn.on kb) (O.on kb) hr (keepb _ _ N₃.x I.nx) (let ⟨o, es, ep, e, r⟩ := N₃.ns.ns; ⟨o, es, ep, keepb _ _ e I.nd, r⟩) qn cdv L X _ s₃ s₃ _ hA' ⟨hfr', rfl, ff₃, fun b m q => let ⟨o, e⟩ := ff.live m; no1 (newM b q) e, fun e s' q => wpAny_leaving_again (SameStack.refl _) q, fun e μ₂ s₅ s' g hns q => ?_⟩ (Go.refl _ _ _) S₄) (fun fl s₅ p => let ⟨_, _, _, _, _, _, q⟩ := p; q.elim) fun _ _ e => e)
  have P : Past [dx] L l s s₅ := ⟨fun b o n e => g.keep b o (fun m => no1 (newM b m) e) (kp b o (fun q => n (q ▸ .head _)) e), newM L (.inl rfl), fun b m => List.mem_singleton.mp m ▸ nd, (k₁.same.trans G.same).trans g.same⟩
  rcases q with q | q
  · exact wpAny_mono (q.leave hfr' rfl ((ff₃.keep fun b m o e => g.keep b o (fun q => let ⟨o, e⟩ := ff.live m; no1 (newM b q) e) e).cons S₁.ok.kind rfl hns) P) (fun _ s'' F => ⟨e, rfl, F⟩) fun _ _ e => e
  · exact wpAny_mono (q.leave hfr' rfl P) (fun _ s'' F => ⟨e, rfl, F⟩) fun _ _ e => e
end
end Mine
end

/-! # L2d -/
section
open PySem PySem.Calls PyProof.Rows PySem.W
set_option autoImplicit false
set_option linter.unusedVariables false
namespace Mine

section
variable {c : Cx} {f C : Addr} {K : Frag}

theorem init_for {fn : Addr} (H : TabK c K C) (hn : MethK c K C "need_marks" (meth 1) fn) {many : Int} {R : List (List Int)} (hr : ∀ r ∈ R, ∀ m ∈ r, badM many m = false) {x dx : Addr} {t : Tok} (hx : c.base.get? x = some (instObj C dx)) (hns : c.base.Ns dx (fun y => ((["many"] : List Str).zip ([.int many t] : List Value)).lookup y)) (qn : Str) (cdv : Value) (L : Addr) :
    Ex1 c 1 (fenv (meth 0) qn cdv L f) (rho0 x many R) [] (stm 2) (fun o ρ' μ' => o = .next ∧ Has (rho0 x many R) ρ' ∧ μ' = []) := by
  refine ex_for (ds := R.map I) (src_list (ev_name rfl rfl)) ?_
  refine turns_st (f := I) (σ := Unit) (fun _ => rho0 x many R) (fun _ => []) (fun l _ => ∀ r ∈ l, ∀ m ∈ r, badM many m = false) ?_ ?_ R () _ hr (Has.refl _)
  · intro r rest t hJ
    refine ex_seq (ex_expr (ev_lendI (n := "self") hx hns rfl (.cons (.int _ _) .nil) (fun d hd => by rcases List.mem_singleton.mp hd with rfl; rfl) rfl (ev_meth H.cls hn.find hn.fn hn.at_ (ev_name rfl rfl) (.cons (ev_name rfl rfl) .nil rfl) (need_ok (many := many) H.cls H.many hn.at_ rfl (hJ r (.head _))))) (ex_nil ⟨(), fun r' h' => hJ r' (.tail _ h'), has_of (hasAll_cons rfl (hasAll_cons rfl (hasAll_cons rfl hasAll_nil))), rfl⟩))
  · intro t ρ' _ hρ
    exact ⟨rfl, hρ, rfl⟩

theorem init_rows {ft : Addr} (hto : FnAt c ft (st 10)) (g1 : c.mg "told" = some (.ref ft)) (g3 : c.mg "sorted" = none) (g4 : c.mg "set" = none) {many : Int} {R : List (List Int)} (hR : R.length ≤ 1000) (hr : ∀ r ∈ R, r.length < 64) (x : Addr) (qn : Str) (cdv : Value) (L : Addr) :
    EvNN c 1 (fenv (meth 0) qn cdv L f) (rho0 x many R) [] (match stm 3 with | .Assign _ e _ => e | _ => default) (R.map norm) := by
  have e : R.map norm = (R.filter fun _ => true).map norm := by rw [List.filter_eq_self.mpr (fun _ _ => rfl)]
  rw [e]
  exact evNN_compM (g := I) inj_I (src_list (ev_name rfl rfl)) (fun C cl r hr' => tests_nil) (fun C cl r hr' _ => evF_call g1 hto (.cons (ev_name rfl rfl) .nil rfl) (told_ok hto g3 g4 r (hr r hr'))) (by omega)

/-- what __init__ makes: the rows are new -/
def InitN (c : Cx) (k : Nat) (f C : Addr) (es : List D) (many : Int) (iss : List (List Int)) : Prop :=
  ∀ X A s vs x dx, Room k A → Sub c.base s.heap → (∀ a, X a → ∃ o, s.heap.get? a = some o) → X x → X dx → x ≠ dx → c.base.get? x = none → c.base.get? dx = none → s.heap.get? x = some (instObj C dx) → s.heap.Ns1 dx (fun _ => none) → RdAll X s.heap vs es →
    codeAny (model c.prog c.w) A (.call (.ref f) ⟨.ref x :: vs, []⟩) (fun r s' => r = .ok (.ret .none) ∧ (∀ b o, b ≠ dx → s.heap.get? b = some o → s'.heap.get? b = some o) ∧ Same s s' ∧
      ∃ a bs t, s'.heap.Ns dx (fun y => ((["rows", "many"] : List Str).zip ([.ref a, .int many t] : List Value)).lookup y) ∧ New2 s s' a bs iss) s

theorem init_ok {fn ft : Addr} {t1 t2 : Tok} (H : TabK c K C) (hn : MethK c K C "need_marks" (meth 1) fn) (hto : FnAt c ft (st 10)) (g1 : c.mg "told" = some (.ref ft)) (g2 : c.mg "len" = none) (g3 : c.mg "sorted" = none) (g4 : c.mg "set" = none)
    (g5 : c.mg "MOST_MARKS" = some (.int 8 t1)) (g6 : c.mg "MOST_THINGS" = some (.int 12 t2)) (hf : FnAt c f (meth 0)) {many : Int} {R : List (List Int)} (hR : R.length ≤ 1000) (hb : badS many R.length = false) (hr : ∀ r ∈ R, (∀ m ∈ r, badM many m = false) ∧ r.length < 64) :
    InitN c 2 f C [.int many, RR R] many (R.map norm) := by
  intro X A s vs x dx hA hbase hlive hXx hXd hne hbx hbd hx hns hvs
  refine fn_enter (ds := [.raw (.ref x), .int many, RR R]) hf (binds3 fun _ _ _ _ _ _ _ _ _ _ => rfl) rfl hA hbase hlive (.cons (.raw _) hvs) fun qn cdv L s₁ S₁ k₁ newM hA' => ?_
  have I : MkI c X (fenv (meth 0) qn cdv L f) x dx := ⟨hXd, hbd, fun m => no1 (newM x m) hx, fun m => by obtain ⟨o, _, _, e, _⟩ := hns; exact no1 (newM dx m) e, hne⟩
  refine wpAny_execs_cons (step_ex I S₁ ⟨k₁.sub _ _ hx, hns.at fun o e => k₁.sub _ _ e⟩ hA' (init_if g2 g5 g6 hR hb x qn cdv L) fun s₂ S₂ G₂ N₂ => ?_)
  refine wpAny_execs_cons (step_self I S₂ N₂ hA' H.cls.kx H.sa H.over H.many H.cls.dict Within.nil (by decide) (d := .int many) (ev_name rfl rfl) rfl fun v s₃ S₃ G₃ N₃ r₃ => ?_)
  obtain ⟨t, rfl⟩ := rd_int r₃
  have z : (fun y => if y = ("many" : Str) then some (Value.int many t) else none) = fun y => ((["many"] : List Str).zip ([.int many t] : List Value)).lookup y := zip_set (ns := []) (us := [])
  have w := Within.cons "many" (Value.int many t) Within.nil
  rw [z] at N₃ w
  refine wpAny_execs_cons (step_on I S₃ N₃ hA' (fun hb kb h1 h2 => init_for (H.on kb) (hn.on kb) (fun r h => (hr r h).1) h1 h2 qn cdv L) fun s₄ S₄ G₄ N₄ => ?_)
  refine wpAny_execs_cons (step_selfN I S₄ N₄ hA' H.cls.kx H.sa H.over H.rows H.cls.dict w (by decide) (init_rows hto g1 g3 g4 hR (fun r h => (hr r h).2) x qn cdv L) rfl fun a bs s₅ G₅ N₅ N2 => wpAny_execs_nil ?_)
  have G := (G₂.trans G₃).trans G₄
  have kp : ∀ b o, b ≠ dx → s.heap.get? b = some o → s₄.heap.get? b = some o := fun b o n e => G.keep b o n (fun m => no1 (newM b m) e) (k₁.sub b o e)
  refine ⟨rfl, fun b o n e => G₅.keep b o n (fun m => no1 (newM b m) e) (kp b o n e), (k₁.same.trans G.same).trans G₅.same, a, bs, t, zip_set (n := "rows") (v := .ref a) (ns := ["many"]) (us := [.int many t]) ▸ N₅.ns.ns, fun b hb' => none_of fun o e => ?_, N2.nodup, N2.outer, N2.inner⟩
  by_cases q : b = dx
  · obtain ⟨o', _, _, e', _⟩ := N₄.ns.ns
    exact no1 (N2.new b hb') (q ▸ e')
  · exact no1 (N2.new b hb') (kp b o q e)

variable {k : Nat} {env : Env} {ρ : Vars} {μ : Mem}
/-- a table is made: all of it is new -/
theorem make_new {x : Str} {px pos : Pos} {fI : Addr} {args : List Expr} {es : List D} {many : Int} {iss : List (List Int)} {X : Addr → Prop} {A : Around} {s : Shared} {E : Value → Shared → Prop} (H : ClsK c K C) (hm : makesIn K C = true) (hi : findIn K (.ref C) "__init__" = some (some (.ref fI))) (hf : typeIn K (.ref fI) = some (.type "function"))
    (hg : c.mg x = some (.ref C)) (ha : EvAll c (k + 1) env ρ μ args es) (hI : InitN c k fI C es many iss) (hA : Room (k + 1) A) (R : Rc c X env ρ μ s) (hne : args ≠ [] := by intro h; cases h)
    (hx : env.kindOf x = some .globalImplicit := by rfl) (hd : (x == ("__debug__" : Str)) = false := by decide) :
    wpAny (model c.prog c.w) A (eval (.Call (.Name x px) args [] pos) env) (fun v s' => Kp s s' ∧ ∀ X' : Addr → Prop, (∀ a, X' a → ∃ o, s.heap.get? a = some o) → Rd X' s'.heap v (tabD C many iss)) E s := by
  refine Call_ (name_global R hx hg ?_ hd)
  refine callWith_plain R hA ha (fun s' k' => ⟨.machine, .inr rfl, fun Q' hq => ?_⟩) hne fun vs s₁ k₁ r₁ => ?_
  · have Y := makes_of (M := model c.prog c.w) (H.kx.keeps (R.base.trans k'.sub)) hm
    obtain ⟨oc, od, cd, sl, hC, _⟩ := Y.obj
    unfold keeperOf
    refine wpAny_bind (wpAny_load hC ?_)
    refine wpAny_bind (Y.call.here ?_)
    exact wpAny_pure hq
  · have R₁ := R.keep k₁.sub
    have KX := H.kx.keeps R₁.base
    obtain ⟨h, g, d, t, os⟩ := s₁
    refine wpAny_call (make_core (makes_of KX hm) (looks_findIn KX hi) (fun self => bind_fn KX self hf) (.inl rfl) ?_)
    have hk : Sub h ((h.push emptyDict).push (instObj C h.objs.size)) := fun b o e => Heap.get?_push_of_some _ (Heap.get?_push_of_some _ e)
    have new : ∀ b : Nat, h.objs.size ≤ b → h.get? b = none := fun b hb => none_of fun o e => absurd (Heap.lt_size e) (Nat.not_lt.mpr hb)
    have newB : ∀ b : Nat, h.objs.size ≤ b → c.base.get? b = none := fun b hb => none_of fun o e => no1 (new b hb) (R₁.base b o e)
    have hx : ((h.push emptyDict).push (instObj C h.objs.size)).get? (h.objs.size + 1) = some (instObj C h.objs.size) := by
      have := Heap.get?_push_size (h.push emptyDict) (o := instObj C h.objs.size) rfl
      rwa [Heap.size_push] at this
    have hns : ((h.push emptyDict).push (instObj C h.objs.size)).Ns h.objs.size (fun _ => none) := (Heap.Ns.new h (.type "dict")).keeps fun b o e => Heap.get?_push_of_some _ e
    refine codeAny_mono (hI (fun b => X b ∨ b = h.objs.size + 1 ∨ b = h.objs.size) _ _ vs (h.objs.size + 1) h.objs.size (hA.make vs) (R₁.base.trans hk) (fun a ha => ?_) (.inr (.inl rfl)) (.inr (.inr rfl)) (Nat.succ_ne_self _) (newB _ (Nat.le_succ _)) (newB _ (Nat.le_refl _)) hx (Heap.Ns1.of_empty hns) (r₁.mono fun b o n e => ⟨?_, hk b o e⟩)) fun r s' z => ?_
    · rcases ha with q | q | q
      · exact (R₁.live a q).imp fun o e => hk a o e
      · exact ⟨_, q ▸ hx⟩
      · obtain ⟨o, _, _, e, _⟩ := hns; exact ⟨o, q ▸ e⟩
    · have := Heap.lt_size e
      rintro (q | q | q)
      · exact n q
      · subst q; exact absurd this (by simp)
      · subst q; exact absurd this (Nat.lt_irrefl _)
    · obtain ⟨rfl, z1, z2, a, bs, tk, z3, N⟩ := z
      have kk : Kp s s' := k₁.trans ⟨fun b o e => z1 b o (fun q => by subst q; exact absurd (Heap.lt_size e) (Nat.lt_irrefl _)) (hk b o e), ⟨z2.os, z2.gens⟩⟩
      refine ⟨rfl, kk, fun X' hl => ?_⟩
      have nX : ∀ b, s.heap.get? b = none → ¬ X' b := fun b hb q => let ⟨o, e⟩ := hl b q; no1 hb e
      have nH : ∀ b : Nat, h.objs.size ≤ b → s.heap.get? b = none := fun b hb => none_of fun o e => no1 (new b hb) (k₁.sub b o e)
      have nN : ∀ b ∈ a :: bs, ¬ X' b := fun b hb => nX b (none_of fun o e => no1 (N.new b hb) (hk b o (k₁.sub b o e)))
      obtain ⟨o, e, hc, _, n, hd⟩ := N.outer
      exact .inst (nX _ (nH _ (Nat.le_succ _))) (z1 _ _ (Nat.succ_ne_self _) hx) rfl rfl rfl (nX _ (nH _ (Nat.le_refl _))) z3 rfl (.cons (.list (nN a (.head _)) e hc hd (rd_nest (fun b m => nN b (.tail _ m)) N.inner)) (.cons (.int _ _) .nil))
end
end Mine
end

/-! # L2e -/
section
open PySem PySem.Calls PyProof.Rows PySem.W
set_option autoImplicit false
set_option linter.unusedVariables false
namespace Mine

/-- the class Table is called -/
structure MakeK (c : Cx) (K : Frag) (C fI : Addr) : Prop where
  cls : ClsK c K C
  makes : makesIn K C = true
  init : findIn K (.ref C) "__init__" = some (some (.ref fI))
  fn : typeIn K (.ref fI) = some (.type "function")
  glob : c.mg "Table" = some (.ref C)

section
variable {c : Cx} {f C fI Ce : Addr} {K : Frag} {many : Int} {R : List (List Int)}

theorem ev_table {k : Nat} {env : Env} {ρ : Vars} {μ : Mem} {px pos : Pos} {args : List Expr} {iss : List (List Int)} (M : MakeK c K C fI) (ha : EvAll c (k + 1) env ρ μ args [.int many, RR R]) (hI : InitN c k fI C [.int many, RR R] many iss) (hne : args ≠ [] := by intro h; cases h) (hx : env.kindOf "Table" = some .globalImplicit := by rfl) :
    Ev c (k + 1) env ρ μ (.Call (.Name "Table" px) args [] pos) (tabD C many iss) := fun X A s hA R E =>
  wpAny_mono (make_new M.cls M.makes M.init M.fn M.glob ha hI hA R hne hx) (fun v s' q => ⟨q.1, q.2 X R.live⟩) fun _ _ e => e

/-! ## _law_tried -/
theorem tried_ok (hf : FnAt c f (st 17)) (M : MakeK c K C fI) {iss : List (List Int)} (hI : InitN c 2 fI C [.int many, RR R] many iss) : Fn c 4 f [.int many, RR R] (.str "") := by
  refine fn_of hf (binds2 fun _ _ _ _ _ _ _ _ _ => rfl) (fun qn cdv L => ?_)
  exact ex_seq (ex1_try (ex_seq (ex_expr (ev_table M (.cons (ev_name rfl rfl) (.cons (ev_name rfl rfl) .nil rfl) rfl) hI) (ex_nil (ex_seq (ex_return ev_str rfl))))))

theorem St.caught {env : Env} {ρ : Vars} {l : List Env} {X : Addr → Prop} {s s₂ : Shared} {e : Addr} (S : St c X env ρ [] s) (hf : env.frame = some env.locals) (H : FrOk c X env [] (frs l) s.heap) (F : Flown [] (env :: l) s s₂ e Ce) : St c X env ρ [] s₂ := by
  refine S.up (fs := frs l) ⟨fun b o n e => F.toUp.keep b o (fun m => n ?_) e, fun b m o e hn => F.toUp.up b ?_ o e hn, F.same⟩ H
  · rcases mem_frs m with q | q
    · rw [hf] at q; cases q; exact .head _
    · exact .tail _ q
  · rcases List.mem_cons.mp m with q | q
    · exact List.mem_filterMap.mpr ⟨env, .head _, q ▸ hf⟩
    · exact frs_tail q
theorem Flown.upL {env : Env} {l : List Env} {L : Addr} {s s₂ : Shared} {e : Addr} (hf : env.frame = some L) (F : Flown [] (env :: l) s s₂ e Ce) : Up (L :: frs l) s s₂ := by
  refine ⟨fun b o n e => F.toUp.keep b o (fun m => n ?_) e, fun b m o e hn => F.toUp.up b ?_ o e hn, F.same⟩
  · rcases mem_frs m with q | q
    · rw [hf] at q; cases q; exact .head _
    · exact .tail _ q
  · rcases List.mem_cons.mp m with q | q
    · exact List.mem_filterMap.mpr ⟨env, .head _, q ▸ hf⟩
    · exact frs_tail q
theorem Up.tok {fs : List Addr} {s s' : Shared} {t : Nat} (u : Up fs s s') : Up fs s { s' with toks := t } := ⟨u.keep, u.up, u.same.trans ⟨rfl, rfl⟩⟩

theorem tried_size {D1 : Addr} (hf : FnAt c f (st 17)) (M : MakeK c K C fI) (hI : InitX c 2 fI C [.int many, RR R] Ce) (g1 : c.mg "BadSize" = some (.ref D1)) (e1 : exmOne K (.ref Ce) (.ref D1) = some true) : FnX c 4 f [.int many, RR R] (.str "size") := by
  refine fnX_of hf (binds2 fun _ _ _ _ _ _ _ _ _ => rfl) rfl fun qn cdv L l X A s₁ E hA hfr ff H S => ?_
  refine wpAny_execs_cons (try_raise hfr rfl (fun Q' E' hE => raise_make M.cls M.makes M.init M.fn M.glob (.cons (ev_name rfl rfl) (.cons (ev_name rfl rfl) .nil rfl) rfl) hI hA S.rc hfr ff hE) fun e s₂ F => ?_)
  refine handle_yes F (S.caught rfl H F).rc M.cls.kx g1 e1 fun s₃ E' F₃ => wpAny_execs_cons (wpAny_Return_some (Constant_str ?_))
  exact ⟨(F₃.upL rfl).tok, _, rfl, .str _ _⟩
theorem tried_mark {D1 D2 : Addr} (hf : FnAt c f (st 17)) (M : MakeK c K C fI) (hI : InitX c 2 fI C [.int many, RR R] Ce) (g1 : c.mg "BadSize" = some (.ref D1)) (e1 : exmOne K (.ref Ce) (.ref D1) = some false) (g2 : c.mg "BadMark" = some (.ref D2)) (e2 : exmOne K (.ref Ce) (.ref D2) = some true) : FnX c 4 f [.int many, RR R] (.str "mark") := by
  refine fnX_of hf (binds2 fun _ _ _ _ _ _ _ _ _ => rfl) rfl fun qn cdv L l X A s₁ E hA hfr ff H S => ?_
  refine wpAny_execs_cons (try_raise hfr rfl (fun Q' E' hE => raise_make M.cls M.makes M.init M.fn M.glob (.cons (ev_name rfl rfl) (.cons (ev_name rfl rfl) .nil rfl) rfl) hI hA S.rc hfr ff hE) fun e s₂ F => ?_)
  refine handle_no F (S.caught rfl H F).rc M.cls.kx g1 e1 (handle_yes F (S.caught rfl H F).rc M.cls.kx g2 e2 fun s₃ E' F₃ => wpAny_execs_cons (wpAny_Return_some (Constant_str ?_)))
  exact ⟨(F₃.upL rfl).tok, _, rfl, .str _ _⟩

/-! ## _law_tried_otherwise -/
theorem other_mark {D3 D4 D2 : Addr} (hf : FnAt c f (st 18)) (M : MakeK c K C fI) (hI : InitX c 2 fI C [.int many, RR R] Ce) (g3 : c.mg "BadThing" = some (.ref D3)) (e3 : exmOne K (.ref Ce) (.ref D3) = some false) (g4 : c.mg "NoBox" = some (.ref D4)) (e4 : exmOne K (.ref Ce) (.ref D4) = some false)
    (g2 : c.mg "BadMark" = some (.ref D2)) (e2 : exmOne K (.ref Ce) (.ref D2) = some true) : FnX c 4 f [.int many, RR R] (.str "mark") := by
  refine fnX_of hf (binds2 fun _ _ _ _ _ _ _ _ _ => rfl) rfl fun qn cdv L l X A s₁ E hA hfr ff H S => ?_
  refine wpAny_execs_cons (try_raise hfr rfl (fun Q' E' hE => raise_make M.cls M.makes M.init M.fn M.glob (.cons (ev_name rfl rfl) (.cons (ev_name rfl rfl) .nil rfl) rfl) hI hA S.rc hfr ff hE) fun e s₂ F => ?_)
  have R' := (S.caught rfl H F).rc
  refine handle_no F R' M.cls.kx g3 e3 (handle_no F R' M.cls.kx g4 e4 (handle_yes F R' M.cls.kx g2 e2 fun s₃ E' F₃ => wpAny_execs_cons (wpAny_Return_some (Constant_str ?_))))
  exact ⟨(F₃.upL rfl).tok, _, rfl, .str _ _⟩
theorem other_size {D1 D3 D4 D2 : Addr} (hf : FnAt c f (st 18)) (M : MakeK c K C fI) (hI : InitX c 2 fI C [.int many, RR R] Ce) (g3 : c.mg "BadThing" = some (.ref D3)) (e3 : exmOne K (.ref Ce) (.ref D3) = some false) (g4 : c.mg "NoBox" = some (.ref D4)) (e4 : exmOne K (.ref Ce) (.ref D4) = some false)
    (g2 : c.mg "BadMark" = some (.ref D2)) (e2 : exmOne K (.ref Ce) (.ref D2) = some false) (g1 : c.mg "BadSize" = some (.ref D1)) (e1 : exmOne K (.ref Ce) (.ref D1) = some true) : FnX c 4 f [.int many, RR R] (.str "size") := by
  refine fnX_of hf (binds2 fun _ _ _ _ _ _ _ _ _ => rfl) rfl fun qn cdv L l X A s₁ E hA hfr ff H S => ?_
  refine wpAny_execs_cons (try_raise hfr rfl (fun Q' E' hE => raise_make M.cls M.makes M.init M.fn M.glob (.cons (ev_name rfl rfl) (.cons (ev_name rfl rfl) .nil rfl) rfl) hI hA S.rc hfr ff hE) fun e s₂ F => ?_)
  have R' := (S.caught rfl H F).rc
  refine handle_no F R' M.cls.kx g3 e3 (handle_no F R' M.cls.kx g4 e4 (handle_no F R' M.cls.kx g2 e2 (handle_yes F R' M.cls.kx g1 e1 fun s₃ E' F₃ => wpAny_execs_cons (wpAny_Return_some (Constant_str ?_)))))
  exact ⟨(F₃.upL rfl).tok, _, rfl, .str _ _⟩
end
end Mine
end

/-! # L2f -/
section
open PySem PySem.Calls PyProof.Rows PySem.W
set_option autoImplicit false
set_option linter.unusedVariables false
namespace Mine
/-- all but a frame of its own and the slots of the callers' -/
structure UpL (L : Addr) (fs : List Addr) (s s' : Shared) : Prop where
  keep : ∀ b o, b ≠ L → b ∉ fs → s.heap.get? b = some o → s'.heap.get? b = some o
  up : ∀ b ∈ fs, ∀ o, s.heap.get? b = some o → (∀ vs, o.data ≠ .fields vs) → ∃ sl, s'.heap.get? b = some { o with slots := sl }
  same : Same s s'
theorem Up.l {L : Addr} {fs : List Addr} {s s' : Shared} (u : Up (L :: fs) s s') : UpL L fs s s' := ⟨fun b o n1 n2 e => u.keep b o (fun m => (List.mem_cons.mp m).elim n1 n2) e, fun b m => u.up b (.tail _ m), u.same⟩
theorem UpL.but {L : Addr} {fs : List Addr} {s s' : Shared} {h' : Heap} {t : Nat} (u : UpL L fs s s') (hL : L ∉ fs) (hs : Heap.SameBut L s'.heap h') : UpL L fs s { s' with heap := h', toks := t } :=
  ⟨fun b o n1 n2 e => hs.extBut b o n1 (u.keep b o n1 n2 e), fun b m o e hn => let ⟨sl, h⟩ := u.up b m o e hn; ⟨sl, hs.extBut b _ (fun q => hL (q ▸ m)) h⟩, u.same.trans ⟨rfl, rfl⟩⟩

section
variable {c : Cx} {k : Nat} {env : Env} {ρ : Vars} {μ : Mem} {X : Addr → Prop} {A : Around} {E : Value → Shared → Prop} {s : Shared} {Q : Value → Shared → Prop} {K : Frag}
theorem fnX_ofL {f : Addr} {st : Stmt} {ds : List D} {r : D} (hf : FnAt c f st) (hb : Binds st ds.length) (hs : scalar r = true)
    (h : ∀ qn cdv L l X A s₁ E, Room k A → A.frames = some (fenv st qn cdv L f :: l) → FF (fenv st qn cdv L f :: l) s₁.heap → FrOk c X (fenv st qn cdv L f) [] (frs l) s₁.heap → St c X (fenv st qn cdv L f) ((namesOf st).zip ds).reverse [] s₁ →
      wpAny (model c.prog c.w) A (execs (bodyOf st) (fenv st qn cdv L f)) (fun fl s' => UpL L (frs l) s₁ s' ∧ ∃ v, fl = .ret v ∧ Rd X s'.heap v r) E s₁) (ok : fnOk st = true := by rfl) : FnX c (k + 1) f ds r := by
  intro X A s vs l E hA hfr ff hl hbase hlive hvs
  refine wpAny_call (fn_enter hf hb ok hA hbase hlive hvs fun qn cdv L s₁ S₁ k₁ newM hA' => ?_)
  have ff₁ : FF l s₁.heap := ff.keep fun b _ o e => k₁.sub b o e
  have hnL := newM L (.inl rfl)
  refine wpAny_mono (h qn cdv L l X _ s₁ _ hA' (Around.frames_deeper hfr) (ff₁.cons S₁.ok.kind rfl S₁.ns) ⟨fun b m => (hl b m).1, fun b m => (hl b m).2, fun b m q => let ⟨o, e⟩ := ff.live m; no1 (newM b q) e, fun b m => ?_⟩ S₁) (fun fl s' p => ?_) fun _ _ e => e
  · obtain ⟨e', he, hf'⟩ := List.mem_filterMap.mp m
    obtain ⟨_, L', o, h2, h3, h4⟩ := ff₁ e' he
    rw [hf'] at h2; cases h2; exact ⟨o, h3, h4⟩
  · obtain ⟨U, v, rfl, r⟩ := p
    exact ⟨⟨fun b o n e => U.keep b o (fun q => no1 hnL (q ▸ e)) n (k₁.sub b o e), fun b m o e hn => U.up b m o (k₁.sub b o e) hn, k₁.same.trans U.same⟩, r.scalar hs⟩

theorem name_var {x : Str} {px : Pos} {d : D} (R : Rc c X env ρ μ s) (e : ρ.lookup x = some d) (h : ∀ v, Rd X s.heap v d → Q v s) (hd : (x == ("__debug__" : Str)) = false := by decide) : wpAny (model c.prog c.w) A (eval (.Name x px) env) Q E s := by
  obtain ⟨v, hv, hr⟩ := R.vars x d e
  refine wpAny_Name ?_ hd
  rcases hv with ⟨a, m, n, q⟩ | ⟨a | a, c', q, i⟩
  · exact wpAny_loadName_local R.ok.kind a n q (h v hr)
  · exact wpAny_loadName_cell R.ok.kind a q i (h v hr)
  · exact wpAny_loadName_free R.ok.kind a.1 q i (h v hr) a.2
theorem meta_ve : typeOf (.type "ValueError") = pure (.type "type") := by kernel_rfl
theorem boot_ve : bootBuiltins "ValueError" = some (.type "ValueError") := by decide +kernel

theorem isi_exc {p1 p2 p3 pos : Pos} {ex Ce : Addr} (R : Rc c X env ρ μ s) (hv : ρ.lookup ("e" : Str) = some (.raw (.ref ex))) (KX : K.In c.base) (ht : ∀ M, Looks M s.heap (typeOf (.ref ex)) (.ref Ce)) (e3 : subIn K (.ref Ce) (.type "ValueError") = some true) (g1 : c.mg "isinstance" = none) (g2 : c.mg "ValueError" = none) (h : Q (.bool true) s)
    (hx1 : env.kindOf "isinstance" = some .globalImplicit := by rfl) (hx2 : env.kindOf "ValueError" = some .globalImplicit := by rfl) : wpAny (model c.prog c.w) A (eval (.Call (.Name "isinstance" p1) [.Name "e" p2, .Name "ValueError" p3] [] pos) env) Q E s := by
  refine Call_ (name_builtin R hx1 g1 boot_isi (by decide) ?_ (by decide))
  unfold callWith
  have hargs : wpAny (model c.prog c.w) A (spliced (backTo pos (starEach [.Name "e" p2, .Name "ValueError" p3] env))) (fun vs s' => vs = [.ref ex, .type "ValueError"] ∧ s' = s) E s := by
    refine args_cons (name_var R hv (fun v r => ?_)) (starEach_cons rfl)
    cases r
    refine args_cons (name_builtin R hx2 g2 boot_ve (by decide) (args_nil ⟨rfl, rfl⟩) (by decide)) (starEach_cons rfl)
  rw [starEach_cons rfl] at hargs ⊢
  refine wpAny_bind (wpAny_holding (wpAny_mono (evalArgs_plain (Q := fun a s' => a = ⟨[.ref ex, .type "ValueError"], []⟩ ∧ s' = s) (wpAny_mono hargs (fun vs s' q => ⟨by rw [q.1], q.2⟩) fun _ _ e => e)) (fun a s₁ h₁ => wpAny_bind (wpAny_standAt ?_)) fun _ _ x => x))
  obtain ⟨rfl, rfl⟩ := h₁
  refine wpAny_bind (wpAny_pure ?_)
  exact wpAny_bind (wpAny_mono (isi_type (Q := Q) (KX.keeps R.base) ht meta_ve e3 (by intro q; cases q) h) (fun r s₂ hr => wpAny_bind (wpAny_holding (wpAny_point (wpAny_pure hr)))) fun _ _ x => x)
end

section
variable {c : Cx} {f C fI Ce : Addr} {K : Frag} {many : Int} {R : List (List Int)}
theorem refused_ok {D5 : Addr} (hf : FnAt c f (st 19)) (M : MakeK c K C fI) (hI : InitX c 2 fI C [.int many, RR R] Ce) (g5 : c.mg "MarkError" = some (.ref D5)) (e5 : exmOne K (.ref Ce) (.ref D5) = some true) (e6 : subIn K (.ref Ce) (.type "ValueError") = some true)
    (g6 : c.mg "isinstance" = none) (g7 : c.mg "ValueError" = none) : FnX c 4 f [.int many, RR R] (.bool true) := by
  refine fnX_ofL hf (binds2 fun _ _ _ _ _ _ _ _ _ => rfl) rfl fun qn cdv L l X A s₁ E hA hfr ff H S => ?_
  have hL : L ∉ frs l := fun m => H.out L m (.inl rfl)
  refine wpAny_execs_cons (try_raise hfr rfl (fun Q' E' hE => raise_make M.cls M.makes M.init M.fn M.glob (.cons (ev_name rfl rfl) (.cons (ev_name rfl rfl) .nil rfl) rfl) hI hA S.rc hfr ff hE) fun e s₂ F => ?_)
  refine handle_as F (S.caught rfl H F).rc M.cls.kx g5 e5 fun s₃ E₁ E₂ F₃ => ?_
  refine st_store' (S.caught rfl H F₃) rfl (.raw (.ref e)) fun s₄ S₄ g₄ hsb => ?_
  have hsb : Heap.SameBut L s₃.heap s₄.heap := hsb
  have ty : ∀ M, Looks M s₄.heap (typeOf (.ref e)) (.ref Ce) := fun M => by
    obtain ⟨B, a0, _, hfl⟩ := F₃.fly
    obtain ⟨ob, h1, h2⟩ := hfl.there
    obtain ⟨_, _, hff, oe, vs, _, _, _, h3, _, h4, _⟩ := hfl
    have hne : e ≠ L := fun q => by
      obtain ⟨m, o, es, ep, e', d', _⟩ := (S.caught rfl H F₃).ns
      have e' : s₃.heap.get? L = some o := e'
      rw [← q, h3] at e'
      cases e'
      rw [h4] at d'; cases d'
    exact h2 ▸ (Looks.ld (hsb.extBut e ob hne h1)).andThen .now
  refine wpAny_execs_cons (wpAny_Return_some (isi_exc S₄.rc rfl M.cls.kx ty e6 g6 g7 ?_))
  obtain ⟨m, hn⟩ := S₄.ns
  refine wpAny_nameGoes rfl hn rfl fun h' m' hn' hs' => ⟨?_, _, rfl, .bool _⟩
  have u : UpL L (frs l) s₁ { s₃ with heap := s₄.heap, toks := s₄.toks } := (F₃.upL rfl).l.but hL hsb
  exact (⟨u.keep, u.up, F₃.same.trans ⟨g₄.same.os, g₄.same.gens⟩⟩ : UpL L (frs l) s₁ s₄).but hL hs'
end
end Mine
end

/-! # N13 -/
section
set_option autoImplicit false
set_option linter.unusedVariables false
namespace Mine
open PySem PySem.Calls PyProof.Rows PySem.W

/-! # statements of the outermost call: calls that catch -/
def EvT (c : Cx) (k : Nat) (env : Env) (ρ : Vars) (μ : Mem) (e : Expr) (d : D) : Prop :=
  ∀ X₀ A s E, Room k A → A.frames = some [env] → St c X₀ env ρ μ s → wpAny (model c.prog c.w) A (eval e env) (fun v s' => St c X₀ env ρ μ s' ∧ Go env μ s μ s' ∧ Rd (XOf X₀ env μ) s'.heap v d) E s
def TrT (c : Cx) (k : Nat) (env : Env) (ρ : Vars) (μ : Mem) (e : Expr) (b : Bool) : Prop :=
  ∀ X₀ A s E, Room k A → A.frames = some [env] → St c X₀ env ρ μ s → wpAny (model c.prog c.w) A (isTrue e env (eval e env)) (fun v s' => St c X₀ env ρ μ s' ∧ Go env μ s μ s' ∧ v = b) E s
def ExT (c : Cx) (k : Nat) (env : Env) (ρ : Vars) (μ : Mem) (ss : List Stmt) (Q : Out → Vars → Mem → Prop) : Prop :=
  ∀ X₀ A s E, Room k A → A.frames = some [env] → St c X₀ env ρ μ s → wpAny (model c.prog c.w) A (execs ss env) (Post c X₀ env μ s Q) E s
def Ex1T (c : Cx) (k : Nat) (env : Env) (ρ : Vars) (μ : Mem) (st : Stmt) (Q : Out → Vars → Mem → Prop) : Prop :=
  ∀ X₀ A s E, Room k A → A.frames = some [env] → St c X₀ env ρ μ s → wpAny (model c.prog c.w) A (exec st env) (Post c X₀ env μ s Q) E s

section
variable {c : Cx} {k : Nat} {env : Env} {ρ ρ' : Vars} {μ : Mem} {Q : Out → Vars → Mem → Prop}
theorem trT_of {e : Expr} {b : Bool} (h : Tr c k env ρ μ e b) : TrT c k env ρ μ e b := fun X₀ A s E hA _ S => wpAny_mono (h _ A s E hA S.rc) (fun v s' q => ⟨S.kp q.1, Go.of_kp q.1, q.2⟩) fun _ _ e => e
theorem exT_of {ss : List Stmt} (h : Ex c k env ρ μ ss Q) : ExT c k env ρ μ ss Q := fun X₀ A s E hA _ S => h X₀ A s E hA S
theorem ex1T_of {st : Stmt} (h : Ex1 c k env ρ μ st Q) : Ex1T c k env ρ μ st Q := fun X₀ A s E hA _ S => h X₀ A s E hA S
theorem exT_seq {st : Stmt} {rest : List Stmt} (h : Ex1T c k env ρ μ st (fun o ρ' μ' => match o with | .next => ExT c k env ρ' μ' rest Q | o => Q o ρ' μ')) : ExT c k env ρ μ (st :: rest) Q := by
  intro X₀ A s E hA hfr S
  refine wpAny_execs_cons (wpAny_mono (h X₀ A s E hA hfr S) (fun fl s' p => ?_) fun _ _ e => e)
  obtain ⟨o, ρ', μ', a, b, g, q⟩ := p
  cases fl <;> cases o <;> first | exact a.elim | skip
  · exact wpAny_mono (q X₀ A s' E hA hfr b) (fun fl' s'' p' => Post.after g p') fun _ _ e => e
  · exact ⟨.brk, ρ', μ', trivial, b, g, q⟩
  · exact ⟨.cont, ρ', μ', trivial, b, g, q⟩
  · exact ⟨.ret _, ρ', μ', a, b, g, q⟩
theorem exT_seq1 {st : Stmt} {rest : List Stmt} (h : Ex1 c k env ρ μ st (fun o ρ' μ' => match o with | .next => ExT c k env ρ' μ' rest Q | o => Q o ρ' μ')) : ExT c k env ρ μ (st :: rest) Q := exT_seq (ex1T_of h)
theorem exT_has {ss : List Stmt} (h : ExT c k env ρ' μ ss Q) (hw : Has ρ' ρ) : ExT c k env ρ μ ss Q := fun X₀ A s E hA hfr S => h X₀ A s E hA hfr (S.weak hw)
theorem ex1T_if {test : Expr} {body orelse : List Stmt} {pos : Pos} {b : Bool} (ht : TrT c k env ρ μ test b) (h1 : b = true → ExT c k env ρ μ body Q) (h2 : b = false → ExT c k env ρ μ orelse Q) : Ex1T c k env ρ μ (.If test body orelse pos) Q := by
  intro X₀ A s E hA hfr S
  refine wpAny_If (wpAny_mono (ht _ A s E hA hfr S) (fun v s₁ q => ?_) fun _ _ e => e)
  obtain ⟨S₁, g₁, rfl⟩ := q
  cases v with
  | true =>
    simp only [if_true]
    exact wpAny_mono (h1 rfl X₀ A s₁ E hA hfr S₁) (fun _ _ p => Post.after g₁ p) fun _ _ e => e
  | false =>
    simp only [Bool.false_eq_true, if_false]
    exact wpAny_mono (h2 rfl X₀ A s₁ E hA hfr S₁) (fun _ _ p => Post.after g₁ p) fun _ _ e => e
theorem ex1T_return {e : Expr} {pos : Pos} {d : D} (he : EvT c k env ρ μ e d) (h : Q (.ret d) ρ μ) : Ex1T c k env ρ μ (.Return (some e) pos) Q := by
  intro X₀ A s E hA hfr S
  exact wpAny_Return_some (wpAny_mono (he _ A s E hA hfr S) (fun v s₁ q => ⟨.ret d, ρ, μ, q.2.2, q.1, q.2.1, h⟩) fun _ _ e => e)
theorem exT_freezeN {ss : List Stmt} {x : Str} {a : Addr} {bs : List Addr} {iss : List (List Int)} (hx : ρ.lookup x = some (rawR a)) (hl : bs.length = iss.length) (h : ExT c k env ((x, RR iss) :: ρ) [] ss Q) : ExT c k env ρ (memN a bs iss) ss Q := by
  intro X₀ A s E hA hfr S
  refine wpAny_mono (h X₀ A s E hA hfr (S.freezeN hx hl)) (fun fl s' p => ?_) fun _ _ e => e
  obtain ⟨o, ρ', μ', y1, y2, g, q⟩ := p
  refine ⟨o, ρ', μ', y1, y2, ⟨g.same, fun b o n e => g.keep b o (fun m => n ?_) e, g.alive, fun b ds m => (g.grow b ds m).imp (fun ⟨_, q⟩ => nomatch q) id⟩, q⟩
  rcases m with m | m | ⟨_, m⟩
  · exact .inl m
  · exact .inr (.inl m)
  · cases m

/-- a call of a function that catches; a list of lists is lent to it -/
theorem evT_callN {x y : Str} {px pos : Pos} {f a : Addr} {st : Stmt} {args : List Expr} {ds : List D} {r : D} {bs : List Addr} {iss : List (List Int)} (hg : c.mg x = some (.ref f)) (hf : FnAt c f st) (hy : ρ.lookup y = some (rawR a)) (hl : bs.length = iss.length) (hm : ∀ p ∈ memN a bs iss, p ∈ μ)
    (ha : EvAll c k env ((y, RR iss) :: ρ) [] args ds) (hF : FnX c k f ds r) (hsc : scalar r = true) (hfl : env.frame = some env.locals) (hne : args ≠ [] := by intro h; cases h) (hx : env.kindOf x = some .globalImplicit := by rfl) (hd : (x == ("__debug__" : Str)) = false := by decide) :
    EvT c k env ρ μ (.Call (.Name x px) args [] pos) r := by
  intro X₀ A s E hA hfr S
  have R := S.rc.lendN hy hl hm
  refine Call_ (name_global R hx hg ?_ hd)
  obtain ⟨o, nm, qn, doc, pm, an, cdv, ct, ho, hd', hcd⟩ := hf
  refine callWith_plain R hA ha (fun s' k' => ⟨.frame, .inl rfl, fun Q' hq => ?_⟩) hne fun vs s₁ k₁ r₁ => ?_
  · unfold keeperOf
    refine wpAny_bind (wpAny_load (k'.sub _ _ (R.base _ _ ho)) ?_)
    rw [hd']; exact wpAny_pure hq
  · have R₁ := R.keep k₁.sub
    have S₁ := S.kp k₁
    have hfs : ∀ b ∈ frs [env], b = env.locals := fun b m => by
      rcases mem_frs m with q | q
      · rw [hfl] at q; cases q; rfl
      · cases q
    have hin : env.locals ∈ frs [env] := List.mem_filterMap.mpr ⟨env, .head _, hfl⟩
    have hnl : env.locals ∉ a :: bs := fun q => by
      obtain ⟨es, h1⟩ := memN_key (iss := iss) hl _ q
      obtain ⟨vs, ⟨o, e, hc, _, n, hdt⟩, _⟩ := S.mem _ _ (hm _ h1)
      obtain ⟨m, hns⟩ := S.ns
      exact IsList_ne_Ns ⟨o, e, hc, n, hdt⟩ hns rfl
    have ff : FF [env] s₁.heap := FF.cons (fun _ h => (nomatch h)) S.ok.kind hfl S₁.ns
    refine wpAny_mono (hF _ A s₁ vs [env] E hA hfr ff (fun b m => by rw [hfs b m]; exact ⟨⟨.inr (.inl rfl), hnl⟩, S.own _ (.inl rfl)⟩) R₁.base R₁.live r₁) (fun v s' q => ?_) fun _ _ e => e
    obtain ⟨U, rv⟩ := q
    have U' : Up [env.locals] s₁ s' := ⟨fun b o n e => U.keep b o (fun m => n (hfs b m ▸ .head _)) e, fun b m => U.up b (by rw [List.mem_singleton.mp m]; exact hin), U.same⟩
    have S' := S₁.up (fs := []) U' ⟨fun _ m => (nomatch m), fun _ m => (nomatch m), fun _ m => (nomatch m), fun _ m => (nomatch m)⟩
    refine ⟨S', (Go.of_kp k₁).trans ⟨U'.same, fun b o n e => U'.keep b o (fun m => n (.inl (List.mem_singleton.mp m))) e, fun b o e => ?_, fun b ds m => .inl ⟨ds, m⟩⟩, rv.scalar hsc⟩
    by_cases q : b = env.locals
    · obtain ⟨m, o', _, _, e', _⟩ := S'.ns; exact ⟨o', q ▸ e'⟩
    · exact ⟨o, U'.keep b o (fun m => q (List.mem_singleton.mp m)) e⟩

theorem trT_cmp {l r : Expr} {op : CmpOp} {pos : Pos} {a b : D} {d : Bool} (ha : EvT c k env ρ μ l a) (hsc : scalar a = true) (hb : Ev c k env ρ μ r b)
    (h : ∀ X A s v u, Room k A → Rd X s.heap v a → Rd X s.heap u b → Gives c X A (compareOp op v u) (.bool d) s) (hm : behindInMarks op r = false := by with_unfolding_all rfl) : TrT c k env ρ μ (.Compare l [op] [r] pos) d := by
  intro X₀ A s E hA hfr S
  refine wpAny_isTrue_Compare1 (wpAny_mono (ha X₀ A s E hA hfr S) (fun v s₁ q => ?_) fun _ _ e => e) hm
  obtain ⟨S₁, g₁, r₁⟩ := q
  refine gives_bind (hb _ A s₁ hA S₁.rc) fun u s₂ k₂ r₂ => ?_
  refine gives_bind (h _ A s₂ v u hA (r₁.scalar hsc) r₂) fun x s₃ k₃ r₃ => ?_
  cases r₃
  exact wpAny_truthy_bool ⟨(S₁.kp k₂).kp k₃, g₁.trans (Go.of_kp (k₂.trans k₃)), rfl⟩
theorem evT_cmp {l r : Expr} {op : CmpOp} {pos : Pos} {a b : D} {d : D} (ha : EvT c k env ρ μ l a) (hsc : scalar a = true) (hb : Ev c k env ρ μ r b)
    (h : ∀ X A s v u, Room k A → Rd X s.heap v a → Rd X s.heap u b → Gives c X A (compareOp op v u) d s) (hm : behindInMarks op r = false := by with_unfolding_all rfl) : EvT c k env ρ μ (.Compare l [op] [r] pos) d := by
  intro X₀ A s E hA hfr S
  refine wpAny_Compare1 (wpAny_mono (ha X₀ A s E hA hfr S) (fun v s₁ q => ?_) fun _ _ e => e) hm
  obtain ⟨S₁, g₁, r₁⟩ := q
  refine gives_bind (hb _ A s₁ hA S₁.rc) fun u s₂ k₂ r₂ => ?_
  refine gives_bind (h _ A s₂ v u hA (r₁.scalar hsc) r₂) fun x s₃ k₃ r₃ => ?_
  exact ⟨(S₁.kp k₂).kp k₃, g₁.trans (Go.of_kp (k₂.trans k₃)), r₃⟩
end
end Mine
end

/-! # L2g -/
section
open PySem PySem.Calls PyProof.Rows PySem.W
set_option autoImplicit false
set_option linter.unusedVariables false
namespace Mine
section
variable {c : Cx} {f C : Addr} {K : Frag}

theorem whole_ok (hf : FnAt c f (st 13)) (g1 : c.mg "isinstance" = none) (g2 : c.mg "int" = none) (g3 : c.mg "bool" = none) (n : Int) : Fn c 1 f [.int n] (.bool true) := by
  refine fn_of hf (binds1 fun _ _ _ _ _ _ _ _ => rfl) (fun qn cdv L => ?_)
  exact ex_seq (ex_return (ev_and (b := true) (ev_isInt g1 boot_isi g2 boot_int (ev_name rfl rfl)) (fun _ => ev_bool1 (ev_not (ev_isBool g1 boot_isi g3 boot_bool (ev_name rfl rfl)))) (fun h => nomatch h)) rfl)

theorem rowAt {R : List (List Int)} {k : Int} (h0 : 0 ≤ k) (h1 : k < R.length) : (R.map I)[k.toNat]? = some (I (R.getD k.toNat [])) := by
  have : k.toNat < R.length := by omega
  rw [List.getElem?_map, List.getElem?_eq_getElem this]
  simp [List.getD_eq_getElem?_getD, this]

theorem fields_ok {fw : Addr} (hf : FnAt c f (st 20)) (H : TabK c K C) (hw : FnAt c fw (st 13)) (g0 : c.mg "_law_whole" = some (.ref fw)) (g1 : c.mg "isinstance" = none) (g2 : c.mg "int" = none) (g3 : c.mg "bool" = none) (g4 : c.mg "list" = none) (g5 : c.mg "len" = none) (g6 : c.mg "range" = none) {many : Int} {R : List (List Int)}
    (hR : R.length ≤ 1000) (hr : ∀ r ∈ R, r.length ≤ 1000) : Fn c 2 f [tabD C many R, .int many, RR R] (.bool true) := by
  refine fn_of hf (binds3 fun _ _ _ _ _ _ _ _ _ _ => rfl) (fun qn cdv L => ?_)
  have hw' := fun n => whole_ok hw g1 g2 g3 n
  refine ex_seq (ex_if (b := false) (tr_or (a := false) (tr_not (b := true) (tr_plain (ev_call g0 hw (.cons (ev_attr H.cls H.many (ev_name rfl rfl) rfl) .nil rfl) (hw' _)))) (fun _ => tr_or (a := many != many) (tr_cmp (ev_attr H.cls H.many (ev_name rfl rfl) rfl) (ev_name rfl rfl) fun X A s v u hA h1 h2 => cmp_ne h1 h2) (fun _ => tr_or (a := false) (tr_not (b := true) (tr_plain (ev_isList g1 boot_isi g4 boot_list (ev_attr H.cls H.rows (ev_name rfl rfl) rfl)))) (fun _ => tr_or0) (fun h => nomatch h)) (fun h => ?_)) (fun h => nomatch h)) (fun h => nomatch h) (fun _ => ex_nil ?_))
  · simp at h
  refine ex_seq (ex_if (b := false) (?_ : Tr _ _ _ _ _ _ _) (fun h => nomatch h) (fun _ => ex_nil ?_))
  · have : (false : Bool) = (((R.map I).length : Int) != ((R.map I).length : Int)) := by simp
    rw [this]
    exact tr_cmp (ev_len g5 boot_len (ev_attr H.cls H.rows (ev_name rfl rfl) rfl) (by rw [List.length_map]; omega)) (ev_len g5 boot_len (ev_name rfl rfl) (by rw [List.length_map]; omega)) fun X A s v u hA h1 h2 => cmp_ne h1 h2
  refine ex_seq (ex_for (ds := (upto ((R.map I).length : Int)).map .int) (src_range g6 boot_range (ev_len g5 boot_len (ev_name rfl rfl) (by rw [List.length_map]; omega)) (by rw [List.length_map]; omega) (by rw [List.length_map]; omega)) ?_)
  rw [List.length_map]
  refine turns_st (σ := Unit) (fun _ => [("_law_due", RR R), ("_law_many", .int many), ("_law_table", tabD C many R)]) (fun _ => []) (fun l _ => ∀ k ∈ l, 0 ≤ k ∧ k < (R.length : Int)) ?_ ?_ (upto (R.length : Int)) () _ (fun k hk => mem_upto.mp hk) (Has.refl _)
  · intro k rest t hJ
    obtain ⟨k0, k1⟩ := hJ k (.head _)
    refine ex_seq (ex_assign (ev_item (ev_attr H.cls H.rows (ev_name rfl rfl) rfl) (ev_name rfl rfl) k0 (rowAt k0 k1) (by rw [List.length_map]; omega)) ?_)
    have hrow : (R.getD k.toNat []).length ≤ 1000 := by
      have hk : k.toNat < R.length := by omega
      rw [List.getD_eq_getElem?_getD, List.getElem?_eq_getElem hk]
      exact hr _ (List.getElem_mem hk)
    generalize hrr : R.getD k.toNat [] = r at hrow
    refine ex_seq (ex_if (b := false) (tr_or (a := false) (tr_not (b := true) (tr_plain (ev_isList g1 boot_isi g4 boot_list (ev_name rfl rfl)))) (fun _ => tr_or (a := !decide (r = r)) (tr_cmp (ev_name rfl rfl) (ev_item (ev_name rfl rfl) (ev_name rfl rfl) k0 (hrr ▸ rowAt k0 k1) (by rw [List.length_map]; omega)) fun X A s v u hA h1 h2 => cmp_Ne enc_I (by decide) hA h1 h2) (fun _ => tr_or (a := !decide (([] : List Int) = [])) (tr_cmp (a := I []) (b := I []) ?_ (ev_list .nil (by decide)) fun X A s v u hA h1 h2 => cmp_Ne enc_I (by decide) hA h1 h2) (fun _ => tr_or0) (fun h => ?_)) (fun h => ?_)) (fun h => nomatch h)) (fun h => nomatch h) (fun _ => ex_nil (ex_nil ⟨(), fun k' h' => hJ k' (.tail _ h'), has_of (hasAll_cons rfl (hasAll_cons rfl (hasAll_cons rfl hasAll_nil))), rfl⟩)))
    · have e : I [] = .list (((r.filter fun _ => false).map id).map .int) := by simp
      rw [e]
      exact ev_compM (g := D.int) (h := D.int) inj_int (src_list (ev_name rfl rfl)) (fun C cl m hm => tests_one (tr_not (b := true) (tr_plain (ev_call g0 hw (.cons (ev_name rfl rfl) .nil rfl) (hw' _))))) (fun C cl m hm h => nomatch h) (by omega)
    · simp at h
    · simp at h
  · intro t ρ' hJ hρ
    exact ex_seq (ex_return ev_bool rfl)
end
end Mine
end

/-! # N14 -/
section
set_option autoImplicit false
set_option linter.unusedVariables false
namespace Mine
open PySem PySem.Calls PyProof.Rows PySem.W

section
variable {c : Cx} {k : Nat} {env : Env} {ρ ρ' : Vars} {μ : Mem} {Q : Out → Vars → Mem → Prop} {pos : Pos}
theorem trT_or {e : Expr} {es : List Expr} {a b : Bool} (he : TrT c k env ρ μ e a) (hr : a = false → TrT c k env ρ μ (.BoolOp .Or es pos) b) (hf : a = true → b = true) : TrT c k env ρ μ (.BoolOp .Or (e :: es) pos) b := by
  intro X A s E hA hfr S
  refine isTrue_or (wpAny_mono (he X A s E hA hfr S) (fun v s₁ q => ?_) fun _ _ e => e)
  obtain ⟨S₁, g₁, rfl⟩ := q
  cases v with
  | true => exact ⟨S₁, g₁, (hf rfl).symm⟩
  | false => exact wpAny_mono (hr rfl X A s₁ E hA hfr S₁) (fun v s₂ q => ⟨q.1, g₁.trans q.2.1, q.2.2⟩) fun _ _ e => e
theorem evT_bool1 {op : BoolOp} {e : Expr} {d : D} (he : EvT c k env ρ μ e d) : EvT c k env ρ μ (.BoolOp op [e] pos) d := fun X A s E hA hfr S => BoolOp_one (he X A s E hA hfr S)
theorem evT_and {e e' : Expr} {es : List Expr} {a b : Bool} (he : EvT c k env ρ μ e (.bool a)) (hr : a = true → EvT c k env ρ μ (.BoolOp .And (e' :: es) pos) (.bool b)) (hf : a = false → b = false) : EvT c k env ρ μ (.BoolOp .And (e :: e' :: es) pos) (.bool b) := by
  intro X A s E hA hfr S
  refine BoolOp_and (wpAny_mono (he X A s E hA hfr S) (fun v s₁ q => ?_) fun _ _ e => e)
  obtain ⟨S₁, g₁, r₁⟩ := q
  cases r₁
  refine wpAny_truthy_bool ?_
  cases a with
  | true => exact wpAny_mono (hr rfl X A s₁ E hA hfr S₁) (fun v s₂ q => ⟨q.1, g₁.trans q.2.1, q.2.2⟩) fun _ _ e => e
  | false => rw [hf rfl]; exact ⟨S₁, g₁, .bool _⟩

/-- the outermost call -/
def FnTop (c : Cx) (k : Nat) (f : Addr) (ds : List D) (r : D) : Prop :=
  ∀ X A s vs E, Room k A → A.frames = some [] → Sub c.base s.heap → (∀ a, X a → ∃ o, s.heap.get? a = some o) → RdAll X s.heap vs ds →
    wpAny (model c.prog c.w) A (call (.ref f) vs) (fun v s' => Kp s s' ∧ Rd X s'.heap v r) E s
theorem fnTop_of {f : Addr} {st : Stmt} {ds : List D} {r : D} (hf : FnAt c f st) (hb : Binds st ds.length)
    (h : ∀ qn cdv L, ExT c k (fenv st qn cdv L f) ((namesOf st).zip ds).reverse [] (bodyOf st) (fun o _ _ => retOf o = r)) (ok : fnOk st = true := by rfl) : FnTop c (k + 1) f ds r := by
  intro X A s vs E hA hfr hbase hlive hvs
  refine wpAny_call (fn_enter hf hb ok hA hbase hlive hvs fun qn cdv L s₁ S₁ k₁ newM hA' => ?_)
  refine wpAny_mono (h qn cdv L X _ s₁ _ hA' (Around.frames_deeper hfr) S₁) (fun fl s₂ p => ?_) fun _ _ e => e
  obtain ⟨o', ρ', μ', a, S₂, g, q⟩ := p
  refine ⟨g.kp_of k₁ newM, ?_⟩
  subst q
  cases fl <;> cases o' <;> first | exact a.elim | skip
  · exact .none
  · exact .none
  · exact .none
  · exact Rd.weak a fun _ h => .inl h

/-- an own list lent out; what comes back is an address -/
theorem ev_lendRaw {x : Str} {a : Addr} {ds : List D} {e : Expr} {v : Value} (hx : ρ.lookup x = some (.raw (.ref a))) (hm : (a, ds) ∈ μ) (he : Ev c k env ((x, .list ds) :: ρ) (dropM μ a) e (.raw v)) : Ev c k env ρ μ e (.raw v) := fun X A s hA R E =>
  wpAny_mono (he _ A s hA (R.lend hx hm) E) (fun u _ q => ⟨q.1, by cases q.2; exact .raw _⟩) fun _ _ e => e

theorem setM_none {a : Addr} {ds : List D} (h : ∀ p ∈ μ, p.1 ≠ a) : setM μ a ds = μ := by
  unfold setM
  refine Eq.trans (List.map_congr_left (g := id) fun p hp => ?_) (List.map_id μ)
  exact if_neg (h p hp)
theorem setM_memI {x : Addr} {is : List Int} (bs : List Addr) : ∀ (iss : List (List Int)) (j : Nat), bs.Nodup → bs.length = iss.length → bs[j]? = some x → setM (memI bs iss) x (is.map D.int) = memI bs (iss.set j is) := by
  induction bs with
  | nil => intro iss j _ _ h; simp at h
  | cons b bs ih =>
    intro iss j hn hl h
    obtain ⟨n1, n2⟩ := List.nodup_cons.mp hn
    cases iss with
    | nil => cases hl
    | cons i iss =>
      cases j with
      | zero =>
        have h : some b = some x := h
        cases h
        show (if x = x then (x, is.map D.int) else (x, i.map D.int)) :: setM (memI bs iss) x (is.map D.int) = (x, is.map D.int) :: memI bs iss
        rw [if_pos rfl, setM_none]
        intro p hp q
        exact n1 (q ▸ (mem_memI (b := p.1) (ds := p.2) hp).1)
      | succ j =>
        have h : bs[j]? = some x := h
        have hne : b ≠ x := fun q => n1 (q ▸ List.mem_of_getElem? h)
        show (if b = x then (x, is.map D.int) else (b, i.map D.int)) :: setM (memI bs iss) x (is.map D.int) = (b, i.map D.int) :: memI bs (iss.set j is)
        rw [if_neg hne, ih iss j n2 (Nat.succ.inj hl) h]
theorem setM_memN {a x : Addr} {bs : List Addr} {iss : List (List Int)} {is : List Int} {j : Nat} (hn : (a :: bs).Nodup) (hl : bs.length = iss.length) (h : bs[j]? = some x) : setM (memN a bs iss) x (is.map D.int) = memN a bs (iss.set j is) := by
  obtain ⟨n1, n2⟩ := List.nodup_cons.mp hn
  have hne : a ≠ x := fun q => n1 (q ▸ List.mem_of_getElem? h)
  show (if a = x then (x, is.map D.int) else (a, bs.map rawR)) :: setM (memI bs iss) x (is.map D.int) = (a, bs.map rawR) :: memI bs (iss.set j is)
  rw [if_neg hne, setM_memI bs iss j n2 hl h]
theorem memI_at {x : Addr} {bs : List Addr} {iss : List (List Int)} {j : Nat} {is : List Int} (h : bs[j]? = some x) (hi : iss[j]? = some is) : (x, is.map D.int) ∈ memI bs iss := by
  refine List.mem_map.mpr ⟨(x, is), List.mem_of_getElem? (i := j) ?_, rfl⟩
  rw [List.getElem?_zip_eq_some]; exact ⟨h, hi⟩
theorem setM_other {a b : Addr} {ds es : List D} (h : (b, es) ∈ μ) (hne : b ≠ a) : (b, es) ∈ setM μ a ds := List.mem_map.mpr ⟨_, h, if_neg hne⟩

variable {K : Frag} {C fI : Addr} {many : Int} {R : List (List Int)}
theorem ev_tableN {px : Pos} {args : List Expr} {y : Str} {a : Addr} {bs : List Addr} {iss iss' : List (List Int)} (M : MakeK c K C fI) (hy : ρ.lookup y = some (rawR a)) (hl : bs.length = iss.length) (hm : ∀ p ∈ memN a bs iss, p ∈ μ) (ha : EvAll c (k + 1) env ((y, RR iss) :: ρ) [] args [.int many, RR R]) (hI : InitN c k fI C [.int many, RR R] many iss')
    (hne : args ≠ [] := by intro h; cases h) (hx : env.kindOf "Table" = some .globalImplicit := by rfl) : Ev c (k + 1) env ρ μ (.Call (.Name "Table" px) args [] pos) (tabD C many iss') := fun X A s hA Rr E =>
  wpAny_mono (make_new M.cls M.makes M.init M.fn M.glob ha hI hA (Rr.lendN hy hl hm) hne hx) (fun v s' q => ⟨q.1, q.2 X Rr.live⟩) fun _ _ e => e

theorem evF_list {args : List Expr} {ds : List D} (ha : EvAll c k env ρ μ args ds) (hlen : ds.length ≤ 16777216) (hsc : ∀ d ∈ ds, scalar d = true) : EvF c k env ρ μ (.List args pos) ds := by
  intro X A s E hA R
  refine List_ (wpAny_mono (evAll ha pos X A s E hA R) (fun vs s₁ q => ?_) fun _ _ e => e)
  have hv := q.2.length
  refine wpAny_newObj_type ⟨q.1.trans (Kp.push s₁ _ _), s₁.heap.objs.size, vs.toArray, rfl, ?_, ⟨_, Heap.get?_push_size _ rfl, rfl, rfl, _, rfl⟩, ?_⟩ (by show vs.toArray.size ≤ sizeLine; rw [List.size_toArray, hv, sizeLine_eq]; exact hlen)
  · exact none_of fun o e => absurd (Heap.lt_size (q.1.sub _ _ e)) (Nat.lt_irrefl _)
  · exact RdAll.scalar (h := s₁.heap) (X := X) (by simpa using q.2) hsc

/-! ## more of the rooms -/
theorem FnNN.up {j k : Nat} {f : Addr} {ds : List D} {iss : List (List Int)} (h : FnNN c j f ds iss) (hjk : j ≤ k) : FnNN c k f ds iss := fun X A s vs E hA => h X A s vs E (hA.le hjk)
theorem InitN.up {j k : Nat} {f : Addr} {es : List D} {iss : List (List Int)} (h : InitN c j f C es many iss) (hjk : j ≤ k) : InitN c k f C es many iss := fun X A s vs x dx hA => h X A s vs x dx (hA.le hjk)

/-! ## tests all of whose parts can be told -/
theorem tr_and2 {e e' : Expr} {a b : Bool} (h : Tr c k env ρ μ e a) (h' : Tr c k env ρ μ e' b) : Tr c k env ρ μ (.BoolOp .And [e, e'] pos) (a && b) :=
  tr_and h (fun q => by subst q; exact tr_and h' (fun q => by subst q; exact tr_and0) fun q => by subst q; rfl) fun q => by subst q; rfl
theorem tr_or2 {e e' : Expr} {a b : Bool} (h : Tr c k env ρ μ e a) (h' : Tr c k env ρ μ e' b) : Tr c k env ρ μ (.BoolOp .Or [e, e'] pos) (a || b) :=
  tr_or h (fun q => by subst q; exact tr_or h' (fun q => by subst q; exact tr_or0) fun q => by subst q; rfl) fun q => by subst q; rfl
theorem tr_or3 {e e' e'' : Expr} {a b d : Bool} (h : Tr c k env ρ μ e a) (h' : Tr c k env ρ μ e' b) (h'' : Tr c k env ρ μ e'' d) : Tr c k env ρ μ (.BoolOp .Or [e, e', e''] pos) (a || (b || d)) :=
  tr_or h (fun q => by subst q; exact (tr_or2 h' h'' : Tr c k env ρ μ _ (b || d))) fun q => by subst q; rfl
theorem ev_and2 {e e' : Expr} {a b : Bool} (h : Ev c k env ρ μ e (.bool a)) (h' : Ev c k env ρ μ e' (.bool b)) : Ev c k env ρ μ (.BoolOp .And [e, e'] pos) (.bool (a && b)) :=
  ev_and h (fun q => by subst q; exact ev_bool1 h') fun q => by subst q; rfl
end
end Mine
end

/-! # L2p -/
section
open PySem PySem.Calls PyProof.Rows PySem.W
set_option autoImplicit false
set_option linter.unusedVariables false
namespace Mine
/-! # the law, plain -/
def belowL (many : Int) : Int := max 1 (min 8 many)
def bad0 (many : Int) (R : List (List Int)) : Bool := decide (many < 1) && !decide ((R.filter fun r => !decide (r = [])) = [])
def hitB (cell : Int) (R : List (List Int)) : Bool := (cell.fmod 3 == 1) && !decide (R = [])
def jL (cell : Int) (n : Nat) : Int := (cell.fdiv 3).fmod n
def iL (cell : Int) (n : Nat) : Int := (cell.fdiv 36).fmod ((n : Int) + 1)
def vL (cell many : Int) : Int := ([-1, max 0 many, max 0 many + (cell.fdiv 4).fmod (10 ^ 20)] : List Int).getD ((cell.fdiv 12).fmod 3).toNat 0
def rowJ (cell : Int) (R : List (List Int)) : List Int := R.getD (jL cell R.length).toNat []
def putL (cell many : Int) (R : List (List Int)) : List (List Int) := R.set (jL cell R.length).toNat (insL (rowJ cell R) (iL cell (rowJ cell R).length).toNat (vL cell many))
def R1 (cell many : Int) (R : List (List Int)) : List (List Int) := if hitB cell R = true then putL cell many R else R
def dueL (bs bad : Bool) : Str := if bs = true then "size" else if bad = true then "mark" else ""

inductive Due (many : Int) (R : List (List Int)) : Str → Prop
  | size : badS many R.length = true → Due many R "size"
  | mark : badS many R.length = false → (∃ r ∈ R, ∃ m ∈ r, badM many m = true) → Due many R "mark"
  | fine : badS many R.length = false → (∀ r ∈ R, ∀ m ∈ r, badM many m = false) → Due many R ""
structure Drawn (many : Int) (R : List (List Int)) (due : Str) : Prop where
  len : R.length ≤ 14
  row : ∀ r ∈ R, r.length ≤ 10
  due : Due many R due

theorem badS_false {many : Int} {n : Nat} (h : badS many n = false) : 0 ≤ many ∧ many ≤ 8 ∧ n ≤ 12 := by
  unfold badS at h
  rw [Bool.or_eq_false_iff, Bool.or_eq_false_iff, decide_eq_false_iff_not, decide_eq_false_iff_not, decide_eq_false_iff_not] at h
  omega
theorem due_of {many : Int} {R : List (List Int)} {bad : Bool} (h1 : bad = true → badS many R.length = false → ∃ r ∈ R, ∃ m ∈ r, badM many m = true) (h2 : bad = false → badS many R.length = false → ∀ r ∈ R, ∀ m ∈ r, badM many m = false) : Due many R (dueL (badS many R.length) bad) := by
  unfold dueL
  cases hb : badS many R.length with
  | true => exact .size hb
  | false =>
    cases bad with
    | true => exact .mark hb (h1 rfl hb)
    | false => exact .fine hb (h2 rfl hb)
theorem bad0_true {many : Int} {R : List (List Int)} {n : Nat} (h : bad0 many R = true) (hb : badS many n = false) : ∃ r ∈ R, ∃ m ∈ r, badM many m = true := by
  unfold bad0 at h
  rw [Bool.and_eq_true, decide_eq_true_eq, Bool.not_eq_true', decide_eq_false_iff_not] at h
  obtain ⟨r, hr⟩ := List.exists_mem_of_ne_nil _ h.2
  obtain ⟨hr1, hr2⟩ := List.mem_filter.mp hr
  have hr2 : r ≠ [] := by simpa using hr2
  obtain ⟨m, hm⟩ := List.exists_mem_of_ne_nil _ hr2
  refine ⟨r, hr1, m, hm, ?_⟩
  have := badS_false hb
  unfold badM
  rw [Bool.or_eq_true, decide_eq_true_eq, decide_eq_true_eq]
  omega
theorem bad0_false {many : Int} {ns : List Int} {n : Nat} (h : bad0 many (rowsL ns (belowL many)) = false) (hb : badS many n = false) : ∀ r ∈ rowsL ns (belowL many), ∀ m ∈ r, badM many m = false := by
  intro r hr m hm
  obtain ⟨b0, b1, _⟩ := badS_false hb
  unfold bad0 at h
  rw [Bool.and_eq_false_iff, decide_eq_false_iff_not, Bool.not_eq_false', decide_eq_true_eq] at h
  rcases h with h | h
  · have hbl : belowL many = many := by unfold belowL; omega
    rw [hbl] at hr
    obtain ⟨k, _, rfl⟩ := List.mem_map.mp hr
    obtain ⟨j, _, rfl⟩ := List.mem_map.mp hm
    exact badM_false.mpr ⟨fmod_nn (by omega), fmod_lt (by omega)⟩
  · have := List.filter_eq_nil_iff.mp h r hr
    have : r = [] := by simpa using this
    subst this
    cases hm
theorem v_bad (cell many : Int) : badM many (vL cell many) = true := by
  unfold badM vL
  rw [Bool.or_eq_true, decide_eq_true_eq, decide_eq_true_eq]
  have h0 := fmod_nn (a := cell.fdiv 12) (b := 3) (by decide)
  have h1 := fmod_lt (a := cell.fdiv 12) (b := 3) (by decide)
  have h2 := fmod_nn (a := cell.fdiv 4) (b := 10 ^ 20) (by decide)
  generalize (cell.fdiv 12).fmod 3 = i at h0 h1
  generalize (cell.fdiv 4).fmod (10 ^ 20) = x at h2
  have : i = 0 ∨ i = 1 ∨ i = 2 := by omega
  rcases this with rfl | rfl | rfl
  · refine .inl ?_
    show (-1 : Int) < 0
    decide
  · refine .inr ?_
    show many ≤ max 0 many
    omega
  · refine .inr ?_
    show many ≤ max 0 many + x
    omega
theorem insL_len {α : Type} (l : List α) (k : Nat) (y : α) : (insL l k y).length = l.length + 1 := by
  unfold insL
  rw [List.length_append, List.length_cons, List.length_take, List.length_drop]; omega
theorem map_insL {α β : Type} (f : α → β) (l : List α) (k : Nat) (y : α) : (insL l k y).map f = insL (l.map f) k (f y) := by
  unfold insL
  rw [List.map_append, List.map_cons, List.map_take, List.map_drop]
theorem hit_ne {cell : Int} {R : List (List Int)} (h : hitB cell R = true) : 0 < R.length := by
  unfold hitB at h
  rw [Bool.and_eq_true, Bool.not_eq_true', decide_eq_false_iff_not] at h
  exact List.length_pos_iff.mpr h.2
theorem j_lt {cell : Int} {n : Nat} (h : 0 < n) : 0 ≤ jL cell n ∧ (jL cell n).toNat < n := by
  have h0 := fmod_nn (a := cell.fdiv 3) (b := (n : Int)) (by omega)
  have h1 := fmod_lt (a := cell.fdiv 3) (b := (n : Int)) (by omega)
  unfold jL
  omega
theorem i_le (cell : Int) (n : Nat) : 0 ≤ iL cell n ∧ (iL cell n).toNat ≤ n := by
  have h0 := fmod_nn (a := cell.fdiv 36) (b := (n : Int) + 1) (by omega)
  have h1 := fmod_lt (a := cell.fdiv 36) (b := (n : Int) + 1) (by omega)
  unfold iL
  omega
theorem rowJ_at {cell : Int} {R : List (List Int)} (h : 0 < R.length) : R[(jL cell R.length).toNat]? = some (rowJ cell R) := by
  have := (j_lt (cell := cell) h).2
  unfold rowJ
  rw [List.getD_eq_getElem?_getD, List.getElem?_eq_getElem this]; rfl
theorem put_bad {cell many : Int} {R : List (List Int)} (h : 0 < R.length) : ∃ r ∈ putL cell many R, ∃ m ∈ r, badM many m = true := by
  refine ⟨_, List.mem_of_getElem? (i := (jL cell R.length).toNat) (List.getElem?_set_self (j_lt h).2), vL cell many, ?_, v_bad cell many⟩
  exact List.mem_append.mpr (.inr (.head _))
theorem put_len {cell many : Int} {R : List (List Int)} : (R1 cell many R).length = R.length := by
  unfold R1 putL
  split
  · exact List.length_set
  · rfl
theorem put_row {cell many : Int} {R : List (List Int)} (h : ∀ r ∈ R, r.length ≤ 9) : ∀ r ∈ R1 cell many R, r.length ≤ 10 := by
  intro r hr
  unfold R1 at hr
  split at hr
  · rename_i hh
    rcases List.mem_or_eq_of_mem_set hr with q | q
    · have := h r q; omega
    · subst q
      rw [insL_len]
      have := h _ (List.mem_of_getElem? (rowJ_at (cell := cell) (hit_ne hh)))
      omega
  · have := h r hr; omega
theorem row_len {ns : List Int} {b : Int} : ∀ r ∈ rowsL ns b, r.length ≤ 9 := by
  intro r hr
  obtain ⟨k, _, rfl⟩ := List.mem_map.mp hr
  unfold rowL
  rw [List.length_map, upto_len]
  have := fmod_lt (a := numL ns k) (b := 10) (by decide)
  omega
/-- what is drawn -/
theorem drawn_of (ns : List Int) (many cell : Int) : Drawn many (R1 cell many (rowsL ns (belowL many))) (dueL (badS many (R1 cell many (rowsL ns (belowL many))).length) (hitB cell (rowsL ns (belowL many)) || bad0 many (rowsL ns (belowL many)))) := by
  refine ⟨?_, put_row row_len, due_of (fun h hb => ?_) fun h hb => ?_⟩
  · rw [put_len]; exact rows_len ns _
  · cases hh : hitB cell (rowsL ns (belowL many)) with
    | true => unfold R1; rw [if_pos hh]; exact put_bad (hit_ne hh)
    | false =>
      rw [hh, Bool.false_or] at h
      unfold R1; rw [if_neg (by rw [hh]; decide)]
      exact bad0_true h hb
  · rw [Bool.or_eq_false_iff] at h
    unfold R1; rw [if_neg (by rw [h.1]; decide)]
    exact bad0_false h.2 hb

theorem upto_lt (n : Int) : (upto n).Pairwise (· < ·) := List.pairwise_map.mpr (List.pairwise_lt_range.imp fun h => Int.ofNat_lt.mpr h)
theorem norm_fil {many : Int} {r : List Int} (h : ∀ m ∈ r, badM many m = false) : (upto many).filter (fun m => decide (m ∈ r)) = norm r := by
  refine lt_ext ((upto_lt many).filter _) (norm_lt _) fun k => ?_
  rw [List.mem_filter, mem_norm, mem_upto, decide_eq_true_eq]
  exact ⟨fun q => q.2, fun q => ⟨badM_false.mp (h k q), q⟩⟩
end Mine
end

/-! # L2h -/
section
open PySem PySem.Calls PyProof.Rows PySem.W
set_option autoImplicit false
set_option linter.unusedVariables false
namespace Mine
theorem three_at {a b d : Int} {i : Int} (h0 : 0 ≤ i) (h1 : i < 3) : ([.int a, .int b, .int d] : List D)[i.toNat]? = some (.int (([a, b, d] : List Int).getD i.toNat 0)) := by
  have : i = 0 ∨ i = 1 ∨ i = 2 := by omega
  rcases this with rfl | rfl | rfl <;> rfl
abbrev lawS : List Stmt := bodyOf (st 21)
def ifBody : Stmt → List Stmt
  | .If _ b _ _ => b
  | _ => []

section
variable {c : Cx} {f : Addr} {qn : Str} {cdv : Value} {L : Addr} {Q : Out → Vars → Mem → Prop}

/-- a mark is put in -/
theorem law_put (glen : c.mg "len" = none) (gmax : c.mg "max" = none) {many cell : Int} {R : List (List Int)} {a : Addr} {bs : List Addr} {below : Int} {ns : List Int} {bd : Bool} (hR : R.length ≤ 14) (hr : ∀ r ∈ R, r.length ≤ 9) (hbl : bs.length = R.length) (hnd : (a :: bs).Nodup) (hb : hitB cell R = true) :
    Ex c 4 (fenv (st 21) qn cdv L f) [("_law_bad", .bool bd), ("_law_cell", .int cell), ("_law_rows", rawR a), ("_law_below", .int below), ("_law_many", .int many), ("_law_script", I ns)] (memN a bs R) (ifBody (lawS[5]?.getD (.Pass ⟨0,0,0,0⟩)))
      (fun o ρ' μ' => match o with | .next => Has [("_law_bad", .bool true), ("_law_rows", rawR a), ("_law_many", .int many)] ρ' ∧ μ' = memN a bs (putL cell many R) | o => Q o ρ' μ') := by
  have hpos := hit_ne hb
  obtain ⟨hj0, hj1⟩ := j_lt (cell := cell) hpos
  have hrj := rowJ_at (cell := cell) hpos
  have hrl := hr _ (List.mem_of_getElem? hrj)
  obtain ⟨b, hbj⟩ : ∃ b, bs[(jL cell R.length).toNat]? = some b := ⟨_, List.getElem?_eq_getElem (by omega)⟩
  have hmem : (b, (rowJ cell R).map D.int) ∈ memN a bs R := .tail _ (memI_at hbj hrj)
  have hset := setM_memN (is := insL (rowJ cell R) (iL cell (rowJ cell R).length).toNat (vL cell many)) hnd hbl hbj
  rw [map_insL] at hset
  obtain ⟨hi0, hi1⟩ := i_le cell (rowJ cell R).length
  have ej : jL cell R.length = (cell.fdiv 3).fmod ((bs.map rawR).length : Int) := by rw [List.length_map, hbl]; rfl
  have ei : iL cell (rowJ cell R).length = (cell.fdiv 36).fmod ((((rowJ cell R).map D.int).length : Int) + 1) := by rw [List.length_map]; rfl
  refine ex_seq (ex_assign (d := rawR b) (ev_lendRaw (x := "_law_rows") rfl (.head _) (ev_item (n := jL cell R.length) (ev_name rfl rfl) ?_ hj0 ?_ ?_)) ?_)
  · rw [ej]
    exact ev_mod (ev_fdiv (ev_name rfl rfl) ev_int (by decide) (by decide)) (ev_len glen boot_len (ev_name rfl rfl) (by rw [List.length_map]; omega)) (by rw [List.length_map]; omega)
  · rw [List.getElem?_map, hbj]; rfl
  · rw [List.length_map]; omega
  refine ex_seq (ex_insert (x := "_law_row") (a := b) (ds := (rowJ cell R).map D.int) (n := iL cell (rowJ cell R).length) (d := .int (vL cell many)) rfl hmem ?_ ?_ rfl (ints_scalar _) hi0 (by rw [List.length_map]; exact hi1) (by rw [List.length_map]; omega) ?_)
  · rw [ei]
    exact ev_lend (x := "_law_row") rfl hmem (ev_mod (ev_fdiv (ev_name rfl rfl) ev_int (by decide) (by decide)) (ev_add (ev_len glen boot_len (ev_name rfl rfl) (by rw [List.length_map]; omega)) ev_int) (by omega))
  · unfold vL
    exact ev_item (ev_list (.cons (ev_neg ev_int) (.cons (ev_max gmax boot_max ev_int (ev_name rfl rfl)) (.cons (ev_add (ev_max gmax boot_max ev_int (ev_name rfl rfl)) (ev_mod (ev_fdiv (ev_name rfl rfl) ev_int (by decide) (by decide)) (ev_pow ev_int ev_int (by decide) (by decide) (by decide)) (by decide))) .nil rfl) rfl) rfl) (Nat.le_of_ble_eq_true rfl))
      (ev_mod (ev_fdiv (ev_name rfl rfl) ev_int (by decide) (by decide)) ev_int (by decide)) (fmod_nn (by decide)) (three_at (fmod_nn (by decide)) (fmod_lt (by decide))) (Nat.le_of_ble_eq_true rfl)
  refine ex_seq (ex_assign ev_bool (ex_nil ⟨has_of (hasAll_cons rfl (hasAll_cons rfl (hasAll_cons rfl hasAll_nil))), hset⟩))

/-- the first part: what is drawn -/
theorem law_head {fce fco fro : Addr} (gce : c.mg "_law_cell_at" = some (.ref fce)) (hce : FnAt c fce (st 14)) (gco : c.mg "_law_count" = some (.ref fco)) (hco : FnAt c fco (st 15)) (gro : c.mg "_law_rows_by" = some (.ref fro)) (hro : FnAt c fro (st 16)) (glen : c.mg "len" = none) (gmax : c.mg "max" = none) (gmin : c.mg "min" = none) (grange : c.mg "range" = none)
    {ns : List Int} (hl : ns.length ≤ 63)
    (h : ∀ many R due a bs, Drawn many R due → bs.length = R.length → ExT c 4 (fenv (st 21) qn cdv L f) [("_law_due", .str due), ("_law_rows", rawR a), ("_law_many", .int many)] (memN a bs R) (lawS.drop 8) Q) :
    ExT c 4 (fenv (st 21) qn cdv L f) [("_law_script", I ns)] [] lawS Q := by
  refine exT_seq1 (ex_assign (ev_call gco hco (.cons (ev_call gce hce (.cons (ev_name rfl rfl) (.cons ev_int .nil rfl) rfl) ((cell_at_ok hce glen (by decide) hl).up (by decide))) .nil rfl) ((count_ok hco _).up (by decide))) ?_)
  show ExT c 4 _ _ _ _ Q
  generalize countL (ns.getD (0 : Int).toNat 0) = many
  refine exT_seq1 (ex_assign (d := .int (belowL many)) (ev_max gmax boot_max ev_int (ev_min gmin boot_min ev_int (ev_name rfl rfl))) ?_)
  have hbel : 0 < belowL many := by unfold belowL; omega
  refine exT_seq1 (ex_assignN (evNN_call gro hro (.cons (ev_name rfl rfl) (.cons (ev_name rfl rfl) .nil rfl) rfl) ((rows_by_ok hro hce gce glen grange hl hbel).up (by decide))) fun a bs hbl hnd => ?_)
  show ExT c 4 _ _ _ _ Q
  rw [List.append_nil]
  refine exT_seq1 (ex_assign (ev_call gce hce (.cons (ev_name rfl rfl) (.cons ev_int .nil rfl) rfl) ((cell_at_ok hce glen (by decide) hl).up (by decide))) ?_)
  show ExT c 4 _ _ _ _ Q
  generalize ns.getD (2 : Int).toNat 0 = cell
  have hD := drawn_of ns many cell
  have hRl := rows_len ns (belowL many)
  have hRr := row_len (ns := ns) (b := belowL many)
  have h := fun due bs => h many (R1 cell many (rowsL ns (belowL many))) due a bs
  have hp := put_len (cell := cell) (many := many) (R := rowsL ns (belowL many))
  generalize rowsL ns (belowL many) = R at hbl hD hRl hRr h hp
  refine exT_seq1 (ex_assign (d := .bool (bad0 many R)) (ev_lendN (x := "_law_rows") rfl hbl (fun p h => h) (ev_and2 (ev_cmp (ev_name rfl rfl) ev_int fun X A s v u hA h1 h2 => cmp_lt h1 h2) (ev_cmp (a := RR (R.filter fun r => !decide (r = []))) ?_ (ev_list .nil (by decide)) fun X A s v u hA h1 h2 => cmp_Ne enc_II (by decide) (a := R.filter fun r => !decide (r = [])) (b := []) hA h1 h2))) ?_)
  · have e : RR (R.filter fun r => !decide (r = [])) = .list (((R.filter fun r => !decide (r = [])).map id).map I) := by rw [List.map_id]
    rw [e]
    exact ev_compM (g := I) (h := I) inj_I (src_list (ev_name rfl rfl)) (fun C cl r hr => tests_one (tr_cmp (ev_name rfl rfl) (ev_list .nil (by decide)) fun X A s v u hA h1 h2 => cmp_Ne enc_I (by decide) (a := r) (b := []) hA h1 h2)) (fun C cl r hr _ => ev_name rfl rfl) (by omega)
  refine exT_seq1 (ex_if_join (b := hitB cell R) [("_law_bad", .bool (hitB cell R || bad0 many R)), ("_law_rows", rawR a), ("_law_many", .int many)] (memN a bs (R1 cell many R)) (tr_lendN (x := "_law_rows") rfl hbl (fun p h => h) (tr_and2 (tr_cmp (ev_mod (ev_name rfl rfl) ev_int (by decide)) ev_int fun X A s v u hA h1 h2 => cmp_eq h1 h2) (tr_cmp (ev_name rfl rfl) (ev_list .nil (by decide)) fun X A s v u hA h1 h2 => cmp_Ne enc_II (by decide) (a := R) (b := []) hA h1 h2))) (fun hb => ?_) (fun hb => ?_) fun ρ' hρ => ?_)
  · have e : R1 cell many R = putL cell many R := if_pos hb
    rw [e, hb]
    exact law_put glen gmax hRl hRr hbl hnd hb
  · have e : R1 cell many R = R := if_neg (by rw [hb]; decide)
    rw [e, hb]
    exact ex_nil ⟨has_of (hasAll_cons rfl (hasAll_cons rfl (hasAll_cons rfl hasAll_nil))), rfl⟩
  show ExT c 4 _ ρ' _ _ Q
  refine exT_has ?_ hρ
  rw [← hp] at hbl
  have hRl' : (R1 cell many R).length ≤ 14 := hD.len
  generalize (hitB cell R || bad0 many R) = bad at hD
  generalize R1 cell many R = R' at hbl hD h hRl'
  refine exT_seq1 (ex_assign ev_str ?_)
  refine exT_seq1 (ex_if_join (b := badS many R'.length) [("_law_due", .str (dueL (badS many R'.length) bad)), ("_law_rows", rawR a), ("_law_many", .int many)] (memN a bs R') (tr_lendN (x := "_law_rows") rfl hbl (fun p h => h) (tr_or3 (tr_cmp (ev_name rfl rfl) ev_int fun X A s v u hA h1 h2 => cmp_lt h1 h2) (tr_cmp (ev_name rfl rfl) ev_int fun X A s v u hA h1 h2 => cmp_gt h1 h2) (tr_cmp (ev_len (ds := R'.map I) glen boot_len (ev_name rfl rfl) (by rw [List.length_map]; omega)) ev_int fun X A s v u hA h1 h2 => ?_))) (fun hb => ?_) (fun hb => ?_) fun ρ' hρ => ?_)
  · have := cmp_gt (c := c) (A := A) h1 h2
    rw [List.length_map] at this
    exact this
  · rw [hb]
    exact ex_seq (ex_assign ev_str (ex_nil ⟨has_of (hasAll_cons rfl (hasAll_cons rfl (hasAll_cons rfl hasAll_nil))), rfl⟩))
  · rw [hb]
    refine ex_seq (ex_if (tr_plain (ev_name rfl rfl)) (fun h => ?_) (fun h => ?_))
    · subst h
      exact ex_seq (ex_assign ev_str (ex_nil (ex_nil ⟨has_of (hasAll_cons rfl (hasAll_cons rfl (hasAll_cons rfl hasAll_nil))), rfl⟩)))
    · subst h
      exact ex_nil (ex_nil ⟨has_of (hasAll_cons rfl (hasAll_cons rfl (hasAll_cons rfl hasAll_nil))), rfl⟩)
  exact exT_has (h _ bs hD hbl) hρ
end
end Mine
end

/-! # L2i -/
section
open PySem PySem.Calls PyProof.Rows PySem.W
set_option autoImplicit false
set_option linter.unusedVariables false
namespace Mine
section
variable {c : Cx} {f : Addr} {qn : Str} {cdv : Value} {L : Addr} {K : Frag} {C fI : Addr}
abbrev Won : Out → Vars → Mem → Prop := fun o _ _ => retOf o = .bool true
abbrev rhoH (a : Addr) (many : Int) (R : List (List Int)) (due : Str) : Vars := [("_law_handed", rawR a), ("_law_rows", RR R), ("_law_due", .str due), ("_law_many", .int many)]

/-- it was refused -/
theorem law_refused {fre fot : Addr} (gre : c.mg "_law_refused_by_any" = some (.ref fre)) (hre : FnAt c fre (st 19)) (got : c.mg "_law_tried_otherwise" = some (.ref fot)) (hot : FnAt c fot (st 18))
    {many : Int} {R : List (List Int)} {due : Str} {a : Addr} {bs : List Addr} (hbl : bs.length = R.length) (hdue : (due != "") = true) (FR : FnX c 4 fre [.int many, RR R] (.bool true)) (FO : FnX c 4 fot [.int many, RR R] (.str due)) :
    ExT c 4 (fenv (st 21) qn cdv L f) (rhoH a many R due) (memN a bs R) (lawS.drop 10) Won := by
  refine exT_seq (ex1T_if (b := due != "") (trT_of (tr_cmp (ev_name rfl rfl) ev_str fun X A s v u hA h1 h2 => cmp_neS h1 h2)) (fun _ => ?_) (fun h => ?_))
  · refine exT_seq (ex1T_return (d := .bool (due == due)) (evT_and (a := true) (evT_callN (y := "_law_handed") gre hre rfl hbl (fun p h => h) (.cons (ev_name rfl rfl) (.cons (ev_name rfl rfl) .nil rfl) rfl) FR rfl rfl) (fun _ => evT_bool1 (evT_cmp (evT_callN (y := "_law_handed") got hot rfl hbl (fun p h => h) (.cons (ev_name rfl rfl) (.cons (ev_name rfl rfl) .nil rfl) rfl) FO rfl rfl) rfl (ev_name rfl rfl) fun X A s v u hA h1 h2 => cmp_eqS h1 h2)) (fun h => nomatch h)) ?_)
    show D.bool (due == due) = .bool true
    rw [beq_self_eq_true]
  · rw [hdue] at h; cases h

/-- it was made -/
theorem law_made {ffi fw : Addr} (M : MakeK c K C fI) (H : TabK c K C) (gfi : c.mg "_law_fields" = some (.ref ffi)) (hfi : FnAt c ffi (st 20)) (gw : c.mg "_law_whole" = some (.ref fw)) (hw : FnAt c fw (st 13)) (gisi : c.mg "isinstance" = none) (gint : c.mg "int" = none) (gbool : c.mg "bool" = none) (glist : c.mg "list" = none) (glen : c.mg "len" = none) (grange : c.mg "range" = none)
    {many : Int} {R : List (List Int)} {a : Addr} {bs : List Addr} (hbl : bs.length = R.length) (hnd : (a :: bs).Nodup) (hR : R.length ≤ 14) (hr : ∀ r ∈ R, r.length ≤ 10) (hm8 : many ≤ 8) (hm0 : 0 ≤ many) (hok : ∀ r ∈ R, ∀ m ∈ r, badM many m = false)
    (hI : InitN c 2 fI C [.int many, RR R] many (R.map norm)) : ExT c 4 (fenv (st 21) qn cdv L f) (rhoH a many R "") (memN a bs R) (lawS.drop 10) Won := by
  have FF : Fn c 4 ffi [tabD C many (R.map norm), .int many, RR (R.map norm)] (.bool true) := (fields_ok hfi H hw gw gisi gint gbool glist glen grange (by rw [List.length_map]; omega) (fun r h => by
    obtain ⟨r', h', rfl⟩ := List.mem_map.mp h
    have h1 := norm_length_le r'
    have h2 := hr r' h'
    omega)).up (by decide)
  refine exT_of (ex_seq (ex_if (b := false) (tr_cmp (ev_name rfl rfl) ev_str fun X A s v u hA h1 h2 => cmp_neS (a := "") (b := "") h1 h2) (fun h => nomatch h) (fun _ => ex_nil ?_)))
  refine ex_seq (ex_assign (ev_tableN (y := "_law_handed") M rfl hbl (fun p h => h) (.cons (ev_name rfl rfl) (.cons (ev_name rfl rfl) .nil rfl) rfl) (hI.up (by decide))) ?_)
  have hn : R.map (fun r => (upto many).filter fun m => decide (m ∈ r)) = R.map norm := List.map_congr_left fun r h => norm_fil (hok r h)
  refine ex_seq (ex_assign_compM (g := I) (h := I) (l := R) (p := fun _ => true) (f := fun r => (upto many).filter fun m => decide (m ∈ r)) inj_I (src_list (ev_name rfl rfl)) (fun C cl r hr => tests_nil) (fun C cl r hr _ => ?_) (by omega) ?_)
  · have e : I ((upto many).filter fun m => decide (m ∈ r)) = .list ((((upto many).filter fun m => decide (m ∈ r)).map id).map D.int) := by rw [List.map_id]
    rw [e]
    exact ev_compM (g := D.int) (h := D.int) inj_int (src_range grange boot_range (ev_name rfl rfl) (by omega) (by omega)) (fun C cl m hm => tests_one (tr_cmp (ev_name rfl rfl) (ev_name rfl rfl) fun X A s v u hA h1 h2 => cmp_In enc_int (by decide) hA h1 h2)) (fun C cl m hm _ => ev_name rfl rfl) (by rw [upto_len]; omega)
  rw [List.filter_eq_self.mpr (fun _ _ => rfl), hn]
  generalize R.map norm = N at FF
  refine ex_seq (ex_if (b := false) (tr_lendN (x := "_law_handed") rfl hbl (fun p h => h) (tr_or (a := !decide (R = R)) (tr_cmp (ev_name rfl rfl) (ev_name rfl rfl) fun X A s v u hA h1 h2 => cmp_Ne enc_II (by decide) (a := R) (b := R) hA h1 h2) (fun _ => tr_or (a := false) (tr_not (b := true) (tr_plain (ev_call gfi hfi (.cons (ev_name rfl rfl) (.cons (ev_name rfl rfl) (.cons (ev_name rfl rfl) .nil rfl) rfl) rfl) FF))) (fun _ => tr_or0) (fun h => nomatch h)) (fun h => ?_))) (fun h => nomatch h) (fun _ => ex_nil ?_))
  · simp at h
  refine ex_seq (ex_appendF (x := "_law_handed") (es := ([0] : List Int).map D.int) (ds := bs.map rawR) rfl (.head _) (evF_list (.cons ev_int .nil rfl) (by decide) (ints_scalar _)) (by rw [List.length_map]; omega) fun b hb => ?_)
  obtain ⟨n1, n2⟩ := memN_snoc (is := [0]) hbl hnd (fun p h => h) hb
  have hcl : (bs ++ [b]).length = (R ++ [[0]]).length := by simp [hbl]
  have hlen : ∀ x ∈ bs ++ [b], ∃ ds, (x, ds) ∈ memI (bs ++ [b]) (R ++ [[0]]) ∧ ds.length ≤ 10 := fun x hx => by
    rw [← memI_keys hcl] at hx
    obtain ⟨⟨y, ds⟩, hp, rfl⟩ := List.mem_map.mp hx
    obtain ⟨_, is, h1, rfl⟩ := mem_memI hp
    refine ⟨_, hp, ?_⟩
    rw [List.length_map]
    rcases List.mem_append.mp (List.of_mem_zip h1).2 with q | q
    · exact hr _ q
    · rw [List.mem_singleton.mp q]; decide
  have hmap : bs.map rawR ++ [rawR b] = (bs ++ [b]).map rawR := by rw [List.map_append]; rfl
  rw [hmap] at n2 ⊢
  generalize setM ((b, List.map D.int [0]) :: memN a bs R) a ((bs ++ [b]).map rawR) = μ at n2
  generalize hcs : bs ++ [b] = cs at n1 n2 hcl hlen
  obtain ⟨n3, n4⟩ := List.nodup_cons.mp n1
  refine ex_freeze (x := "_law_handed") (a := a) (ds := cs.map rawR) rfl (n2 _ (.head _)) ?_
  refine ex_seq (ex_for (ds := cs.map rawR) (src_list (ev_name rfl rfl)) ?_)
  refine turns_st (f := rawR) (σ := Mem) (fun _ => [("_law_table", tabD C many N), ("_law_many", .int many), ("_law_due", RR N)]) (fun t => t) (fun l t => l.Nodup ∧ ∀ x ∈ l, ∃ ds, (x, ds) ∈ t ∧ ds.length ≤ 10) ?_ ?_ cs (dropM μ a) _ ⟨n4, fun x hx => ?_⟩ (has_of (hasAll_cons rfl (hasAll_cons rfl (hasAll_cons rfl hasAll_nil))))
  · rintro x rest t ⟨j1, j2⟩
    obtain ⟨ds, h1, h2⟩ := j2 x (.head _)
    obtain ⟨m1, m2⟩ := List.nodup_cons.mp j1
    refine ex_seq (ex_append (x := "_law_row") (a := x) (ds := ds) rfl h1 ev_int (by omega) (ex_nil ⟨_, ⟨m2, fun y hy => ?_⟩, has_of (hasAll_cons rfl (hasAll_cons rfl (hasAll_cons rfl hasAll_nil))), rfl⟩))
    obtain ⟨es, h3, h4⟩ := j2 y (.tail _ hy)
    exact ⟨es, setM_other h3 fun q => m1 (q ▸ hy), h4⟩
  · rintro t ρ' _ hρ
    refine ex_has ?_ hρ
    exact ex_seq (ex_return (ev_call gfi hfi (.cons (ev_name rfl rfl) (.cons (ev_name rfl rfl) (.cons (ev_name rfl rfl) .nil rfl) rfl) rfl) FF) rfl)
  · obtain ⟨ds, h1, h2⟩ := hlen x hx
    exact ⟨ds, mem_dropM.mpr ⟨n2 _ (.tail _ h1), fun q => n3 (q ▸ hx)⟩, h2⟩

/-- the second part: it is handed in -/
theorem law_tried {ftr : Addr} (gtr : c.mg "_law_tried" = some (.ref ftr)) (htr : FnAt c ftr (st 17)) (glist : c.mg "list" = none) {many : Int} {R : List (List Int)} {due : Str} {a : Addr} {bs : List Addr} (hbl : bs.length = R.length) (hR : R.length ≤ 14) (hr : ∀ r ∈ R, r.length ≤ 10) (FT : FnX c 4 ftr [.int many, RR R] (.str due))
    (h : ∀ a bs, bs.length = R.length → (a :: bs).Nodup → ExT c 4 (fenv (st 21) qn cdv L f) (rhoH a many R due) (memN a bs R) (lawS.drop 10) Won) :
    ExT c 4 (fenv (st 21) qn cdv L f) [("_law_due", .str due), ("_law_rows", rawR a), ("_law_many", .int many)] (memN a bs R) (lawS.drop 8) Won := by
  refine exT_freezeN (x := "_law_rows") rfl hbl ?_
  refine exT_has (ρ' := [("_law_rows", RR R), ("_law_due", .str due), ("_law_many", .int many)]) ?_ (has_of (hasAll_cons rfl (hasAll_cons rfl (hasAll_cons rfl hasAll_nil))))
  have e : (R.filter fun _ => true).map id = R := by rw [List.filter_eq_self.mpr (fun _ _ => rfl), List.map_id]
  refine exT_seq1 (ex_assign_compNM (g := I) (f := id) (l := R) (p := fun _ => true) inj_I (src_list (ev_name rfl rfl)) (fun C cl r hr' => tests_nil) (fun C cl r hr' _ => evF_listOf glist boot_list (ev_name rfl rfl) (by rw [List.length_map]; have := hr r hr'; show r.length ≤ _; omega) (ints_scalar _)) (by omega) fun a' bs' hbl' hnd' => ?_)
  show ExT c 4 _ _ _ _ Won
  rw [e, List.append_nil]
  rw [e] at hbl'
  have hd : (due != due) = false := by rw [bne_self_eq_false']
  refine exT_seq (ex1T_if (b := false) (trT_or (a := due != due) (trT_cmp (evT_callN (y := "_law_handed") gtr htr rfl hbl' (fun p h => h) (.cons (ev_name rfl rfl) (.cons (ev_name rfl rfl) .nil rfl) rfl) FT rfl rfl) rfl (ev_name rfl rfl) fun X A s v u hA h1 h2 => cmp_neS h1 h2) (fun _ => trT_of (tr_lendN (x := "_law_handed") rfl hbl' (fun p h => h) (tr_or (a := !decide (R = R)) (tr_cmp (ev_name rfl rfl) (ev_name rfl rfl) fun X A s v u hA h1 h2 => cmp_Ne enc_II (by decide) (a := R) (b := R) hA h1 h2) (fun _ => tr_or0) (fun h => ?_)))) (fun h => ?_)) (fun h => nomatch h) (fun _ => exT_of (ex_nil ?_)))
  · simp at h
  · rw [hd] at h; cases h
  exact h a' bs' hbl' hnd'
end

structure Lib2 (c : Cx) (K : Frag) (C fI Cs Cm D3 D4 D5 : Addr) : Prop where
  gC : c.mg "Table" = some (.ref C)
  gs : c.mg "BadSize" = some (.ref Cs)
  gm : c.mg "BadMark" = some (.ref Cm)
  g3 : c.mg "BadThing" = some (.ref D3)
  g4 : c.mg "NoBox" = some (.ref D4)
  g5 : c.mg "MarkError" = some (.ref D5)
  tab : TabK c K C
  make : MakeK c K C fI
  init : FnAt c fI (meth 0)
  need : ∃ f, MethK c K C "need_marks" (meth 1) f
  mm : ∃ t, c.mg "MOST_MARKS" = some (.int 8 t)
  mt : ∃ t, c.mg "MOST_THINGS" = some (.int 12 t)
  told : ∃ f, c.mg "told" = some (.ref f) ∧ FnAt c f (st 10)
  whole : ∃ f, c.mg "_law_whole" = some (.ref f) ∧ FnAt c f (st 13)
  cell : ∃ f, c.mg "_law_cell_at" = some (.ref f) ∧ FnAt c f (st 14)
  count : ∃ f, c.mg "_law_count" = some (.ref f) ∧ FnAt c f (st 15)
  rows : ∃ f, c.mg "_law_rows_by" = some (.ref f) ∧ FnAt c f (st 16)
  tried : ∃ f, c.mg "_law_tried" = some (.ref f) ∧ FnAt c f (st 17)
  other : ∃ f, c.mg "_law_tried_otherwise" = some (.ref f) ∧ FnAt c f (st 18)
  refused : ∃ f, c.mg "_law_refused_by_any" = some (.ref f) ∧ FnAt c f (st 19)
  fields : ∃ f, c.mg "_law_fields" = some (.ref f) ∧ FnAt c f (st 20)
  len : c.mg "len" = none
  list : c.mg "list" = none
  range : c.mg "range" = none
  set : c.mg "set" = none
  sorted : c.mg "sorted" = none
  max : c.mg "max" = none
  min : c.mg "min" = none
  isi : c.mg "isinstance" = none
  int : c.mg "int" = none
  bool : c.mg "bool" = none
  ve : c.mg "ValueError" = none
  size : Exc c "BadSize" Cs
  mark : Exc c "BadMark" Cm
  ss : exmOne K (.ref Cs) (.ref Cs) = some true
  sm : exmOne K (.ref Cs) (.ref Cm) = some false
  s3 : exmOne K (.ref Cs) (.ref D3) = some false
  s4 : exmOne K (.ref Cs) (.ref D4) = some false
  s5 : exmOne K (.ref Cs) (.ref D5) = some true
  ms : exmOne K (.ref Cm) (.ref Cs) = some false
  mm' : exmOne K (.ref Cm) (.ref Cm) = some true
  m3 : exmOne K (.ref Cm) (.ref D3) = some false
  m4 : exmOne K (.ref Cm) (.ref D4) = some false
  m5 : exmOne K (.ref Cm) (.ref D5) = some true
  vs : subIn K (.ref Cs) (.type "ValueError") = some true
  vm : subIn K (.ref Cm) (.type "ValueError") = some true

theorem law_ok {c : Cx} {f : Addr} {K : Frag} {C fI Cs Cm D3 D4 D5 : Addr} (hf : FnAt c f (st 21)) (B : Lib2 c K C fI Cs Cm D3 D4 D5) {ns : List Int} (hl : ns.length ≤ 63) : FnTop c 5 f [I ns] (.bool true) := by
  obtain ⟨fn, hn⟩ := B.need
  obtain ⟨t1, gmm⟩ := B.mm
  obtain ⟨t2, gmt⟩ := B.mt
  obtain ⟨fto, gto, hto⟩ := B.told
  obtain ⟨fw, gw, hw⟩ := B.whole
  obtain ⟨fce, gce, hce⟩ := B.cell
  obtain ⟨fco, gco, hco⟩ := B.count
  obtain ⟨fro, gro, hro⟩ := B.rows
  obtain ⟨ftr, gtr, htr⟩ := B.tried
  obtain ⟨fot, got, hot⟩ := B.other
  obtain ⟨fre, gre, hre⟩ := B.refused
  obtain ⟨ffi, gfi, hfi⟩ := B.fields
  refine fnTop_of hf (binds1 fun _ _ _ _ _ _ _ _ => rfl) (fun qn cdv L => ?_)
  refine law_head gce hce gco hco gro hro B.len B.max B.min B.range hl fun many R due a bs Dr hbl => ?_
  obtain ⟨h14, h10, hdue⟩ := Dr
  cases hdue with
  | size hs =>
    have I := init_size (f := fI) (C := C) B.size B.len gmm gmt B.init (by omega) hs
    exact law_tried gtr htr B.list hbl h14 h10 (tried_size htr B.make I B.gs B.ss) fun a bs hbl _ => law_refused gre hre got hot hbl (by decide) (refused_ok hre B.make I B.g5 B.s5 B.vs B.isi B.ve) (other_size hot B.make I B.g3 B.s3 B.g4 B.s4 B.gm B.sm B.gs B.ss)
  | mark hs hr =>
    have I := init_mark (f := fI) (C := C) B.tab hn B.mark B.len gmm gmt B.init (by omega) hs hr
    exact law_tried gtr htr B.list hbl h14 h10 (tried_mark htr B.make I B.gs B.ms B.gm B.mm') fun a bs hbl _ => law_refused gre hre got hot hbl (by decide) (refused_ok hre B.make I B.g5 B.m5 B.vm B.isi B.ve) (other_mark hot B.make I B.g3 B.m3 B.g4 B.m4 B.gm B.mm')
  | fine hs hr =>
    obtain ⟨b0, b1, _⟩ := badS_false hs
    have I := init_ok B.tab hn hto gto B.len B.sorted B.set gmm gmt B.init (by omega) hs (fun r h => ⟨hr r h, by have := h10 r h; omega⟩)
    exact law_tried gtr htr B.list hbl h14 h10 (tried_ok htr B.make I).x fun a bs hbl hnd => law_made B.make B.tab gfi hfi gw hw B.isi B.int B.bool B.list B.len B.range hbl hnd h14 h10 b1 b0 hr I
end Mine
end

/-! # L2j -/
section
open PySem PySem.W PyProof.Rows
set_option Elab.async false
set_option maxRecDepth 100000
set_option maxHeartbeats 8000000
namespace Mine
theorem fnAt_of {c : Cx} {f : Addr} {stt : Stmt} {o : Obj} {nm qn : Str} {doc pm : Value} {an : Option Addr} {cdv ct : Value} (ho : c.base.get? f = some o) (hd : o.data = .func (fnD stt nm qn doc pm an cdv ct)) (hcd : c.base.CodeRec cdv qn) : FnAt c f stt := ⟨o, nm, qn, doc, pm, an, cdv, ct, ho, hd, hcd⟩
theorem fnIn_of {c : Cx} {f : Addr} {x : Str} {stt : Stmt} {o : Obj} {nm qn : Str} {doc pm : Value} {an : Option Addr} {cdv ct : Value} (hm : c.mg x = some (.ref f)) (ho : c.base.get? f = some o) (hd : o.data = .func (fnD stt nm qn doc pm an cdv ct)) (hcd : c.base.CodeRec cdv qn) : ∃ f, c.mg x = some (.ref f) ∧ FnAt c f stt := ⟨f, hm, o, nm, qn, doc, pm, an, cdv, ct, ho, hd, hcd⟩
theorem methK_of {c : Cx} {K : Frag} {C f : Addr} {x : Str} {stt : Stmt} {o : Obj} {nm qn : Str} {doc pm : Value} {an : Option Addr} {cdv ct : Value} (h1 : findIn K (.ref C) x = some (some (.ref f))) (h2 : typeIn K (.ref f) = some (.type "function")) (ho : c.base.get? f = some o) (hd : o.data = .func (fnD stt nm qn doc pm an cdv ct)) (hcd : c.base.CodeRec cdv qn) : ∃ f, MethK c K C x stt f := ⟨f, h1, h2, o, nm, qn, doc, pm, an, cdv, ct, ho, hd, hcd⟩
theorem exc_of {c : Cx} {x : Str} {Ce : Addr} {p : Program} {loose : List Str} {mean : ExcName → Option Value} (T : Top p loose mean c.mg c.mb c.base) (hs : specOf p x = some ("ValueError.__new__", veMro)) (hm : c.mg x = some (.ref Ce)) : Exc c x Ce := by
  obtain ⟨C', O, _⟩ := T.ownAt hs
  have e := O.own.bound
  rw [hm] at e
  cases e
  exact O.own
open_top hd2 for PySem.Challenge.rw_uf060024_02
theorem law02 : PySem.Challenge.rw_uf060024_02.Holds := hd2 (by
  intro w s₀ s₁ mg mb G Y fa o pm cd doc dV kV ho hd hcd hD hmg hg args vals as hpre hlay hrd hwl hlo
  have KX := kIn_of Y
  refine Ground.open G ?_
  intro T B D TE TW
  wrow_args hpre hlay hrd hwl hlo
  clear hd hD hcd B D TE TW
  rename_i ns _ _ _ _ _ _ _ a vs _ hL _ _ _ hI _ hc _
  have hmg' : mg "law" = some (.ref fa) := hmg
  clear hmg
  obtain ⟨C, fI, Cs, Cm, D3, D4, D5, hC⟩ : ∃ C fI Cs Cm D3 D4 D5, Lib2 ⟨PySem.Challenge.rw_uf060024_02.row.prog, w, s₁.heap, mg, mb, T.g, T.b, T.nolimit, T.builtins⟩ _ C fI Cs Cm D3 D4 D5 := by
    refine ⟨_, _, _, _, _, _, _, ⟨mg_of KX T.g rfl, mg_of KX T.g rfl, mg_of KX T.g rfl, mg_of KX T.g rfl, mg_of KX T.g rfl, mg_of KX T.g rfl, ⟨⟨KX, rfl, rfl, rfl⟩, rfl, rfl, rfl, rfl⟩, ⟨⟨KX, rfl, rfl, rfl⟩, rfl, rfl, rfl, mg_of KX T.g rfl⟩, fnAt_of (KX _ _ rfl) rfl (codeRec_of KX rfl), methK_of rfl rfl (KX _ _ rfl) rfl (codeRec_of KX rfl), ⟨_, mg_of KX T.g rfl⟩, ⟨_, mg_of KX T.g rfl⟩,
      fnIn_of (mg_of KX T.g rfl) (KX _ _ rfl) rfl (codeRec_of KX rfl), fnIn_of (mg_of KX T.g rfl) (KX _ _ rfl) rfl (codeRec_of KX rfl), fnIn_of (mg_of KX T.g rfl) (KX _ _ rfl) rfl (codeRec_of KX rfl), fnIn_of (mg_of KX T.g rfl) (KX _ _ rfl) rfl (codeRec_of KX rfl), fnIn_of (mg_of KX T.g rfl) (KX _ _ rfl) rfl (codeRec_of KX rfl), fnIn_of (mg_of KX T.g rfl) (KX _ _ rfl) rfl (codeRec_of KX rfl), fnIn_of (mg_of KX T.g rfl) (KX _ _ rfl) rfl (codeRec_of KX rfl), fnIn_of (mg_of KX T.g rfl) (KX _ _ rfl) rfl (codeRec_of KX rfl), fnIn_of (mg_of KX T.g rfl) (KX _ _ rfl) rfl (codeRec_of KX rfl),
      mg_none_of KX T.g rfl, mg_none_of KX T.g rfl, mg_none_of KX T.g rfl, mg_none_of KX T.g rfl, mg_none_of KX T.g rfl, mg_none_of KX T.g rfl, mg_none_of KX T.g rfl, mg_none_of KX T.g rfl, mg_none_of KX T.g rfl, mg_none_of KX T.g rfl, mg_none_of KX T.g rfl,
      exc_of T rfl (mg_of KX T.g rfl), exc_of T rfl (mg_of KX T.g rfl), rfl, rfl, rfl, rfl, rfl, rfl, rfl, rfl, rfl, rfl, rfl, rfl⟩⟩
  have hlaw : FnAt ⟨PySem.Challenge.rw_uf060024_02.row.prog, w, s₁.heap, mg, mb, T.g, T.b, T.nolimit, T.builtins⟩ fa (st 21) := by
    obtain ⟨f, e, hf⟩ : ∃ f, mg "law" = some (.ref f) ∧ FnAt ⟨PySem.Challenge.rw_uf060024_02.row.prog, w, s₁.heap, mg, mb, T.g, T.b, T.nolimit, T.builtins⟩ f (st 21) := ⟨_, mg_of KX T.g rfl, fnAt_of (KX _ _ rfl) rfl (codeRec_of KX rfl)⟩
    rw [hmg'] at e
    cases e
    exact hf
  have F := law_ok hlaw hC (ns := ns) (by omega)
  obtain ⟨ol, hol, hcl, nl, hdl⟩ := hL
  refine wpAny_mono (F (fun _ => False) callerA s₁ [.ref a] _ ⟨rfl, by decide +kernel, by decide +kernel⟩ rfl (Sub.refl _) (fun _ h => h.elim) (.cons (.list (fun h => h) hol hcl hdl (by simpa using ints_rd hI)) .nil)) (fun v s' q => ?_) fun _ _ e => e
  obtain ⟨k, r⟩ := q
  cases r
  exact GoodW.toG ⟨.inl ⟨_, .bool true, [], rfl, fun _ => rfl, .bool _, by with_unfolding_all rfl, fun _ => ⟨List.nodup_nil, fun _ h => nomatch h⟩⟩, k.sub, k.same.os, k.same.gens.trans hg⟩)
end Mine
theorem PySem.Challenge.cw_uf060024_02_holds : PySem.Challenge.rw_uf060024_02.Holds := by
  exact Mine.law02
end
