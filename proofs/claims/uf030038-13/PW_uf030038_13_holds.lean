import PyProof.Rows.All
import Wide.All
import OpenK.AllK
import Wide.FinOn
import OpenK.KWalk
import PyProof.Cells
import PyProof.CompFree
import PyProof.CompUse
import PyProof.DictCalls
import PyProof.PlainList
import PyProof.Rules3
import PyProof.ListIndex
import PyProof.Rows.Frame
import PyProof.RangeFor
import PyProof.Rules2
import PyProof.PureInt
import PyProof.NoPylong
import PyProof.Rows.RuleB_floordiv
import PyProof.Rows.RuleB_mod
import PyProof.Rows.StrRules
import PyProof.Rows.Chain
import PyProof.Raises
import PyProof.RulesAssignMore
import PyProof.RulesMatch
import PyProof.TupleIter
import PyProof.LetGo
import PyProof.AssignAttr
import OpenK.KMore
import PyProof.CallRoads
import PyProof.CompMap
import PyProof.Walks
import PyProof.RangeIter
import PyProof.P3In
import PyProof.ListTruth
import PyProof.ListIndexNeg
import PyProof.SliceList
import PyProof.FactsAll.list_3
import PyProof.FactsAll.list_4
import PyProof.Rows.Tup
import PyProof.SeqWrite
import PyProof.ReprLoop
import PyProof.IsiPairs
import PyProof.IsiHeapPairs
import PyProof.IsiNone
import PyProof.ListCopy
import PyProof.TupleOfSeq
import PyProof.TupleCall
import PyProof.StrCalls2
import PyProof.ConsumeWalk
import PyProof.Rows.RuleN_abs
import PyProof.Rows.SeqMore
import PyProof.CallStr
import PyProof.StrBlock2
import PyProof.DictDisplay
import PyProof.DictTruth
import OpenK.KLine
import PyProof.DictTable
import PyProof.MeetsSeq
import KE.LcSums
import PyProof.P3Eq
import PyProof.Rows.TupAssign
import PySem.Challenge.RW_uf030038_13
set_option autoImplicit false
namespace Mine
open PySem PySem.W

/-- abstract values -/
inductive V where
  | none | bool (b : Bool) | int (i : Int) | str (s : Str) | tup (vs : List V) | rng (a b : Int) | ref (a : Addr) | typ (n : String) | blt (i : String)
  deriving Inhabited

abbrev tupObj (items : Array Value) (n : Nat) : Obj := { cls := .type "tuple", data := .seq items n }

mutual
inductive VR (h : Heap) : Value → V → Prop where
  | none : VR h .none .none
  | bool (b : Bool) : VR h (.bool b) (.bool b)
  | int (i : Int) (t : Tok) : VR h (.int i t) (.int i)
  | str (s : Str) (t : Tok) : VR h (.str s t) (.str s)
  | typ (n : String) : VR h (.type n) (.typ n)
  | blt (i : String) : VR h (.builtin i) (.blt i)
  | ref (a : Addr) : VR h (.ref a) (.ref a)
  | tup {a : Addr} {items : Array Value} {n : Nat} {vs : List V} : h.get? a = some (tupObj items n) → VRs h items.toList vs → VR h (.ref a) (.tup vs)
  | rng {r : Addr} {a b : Int} {t u v : Tok} : IsRange h r a b 1 t u v → VR h (.ref r) (.rng a b)
inductive VRs (h : Heap) : List Value → List V → Prop where
  | nil : VRs h [] []
  | cons {v : Value} {vs : List Value} {x : V} {xs : List V} : VR h v x → VRs h vs xs → VRs h (v :: vs) (x :: xs)
end

/-- objects that nothing changes -/
def Imm (o : Obj) : Prop := (∃ items n, o = tupObj items n) ∨ ∃ vs, o = { cls := .type "range", data := .fields vs }
theorem Imm.tup (items : Array Value) (n : Nat) : Imm (tupObj items n) := .inl ⟨_, _, rfl⟩
theorem Imm.not {o : Obj} (h1 : o.cls ≠ .type "tuple") (h2 : o.cls ≠ .type "range") : ¬ Imm o := by
  rintro (⟨_, _, rfl⟩ | ⟨_, rfl⟩)
  · exact h1 rfl
  · exact h2 rfl
theorem Imm.notDict {o : Obj} {es : Array DictEntry} {n : Nat} (h : o.data = .dict es n) : ¬ Imm o := by
  rintro (⟨_, _, rfl⟩ | ⟨_, rfl⟩) <;> cases h
theorem Imm.notCell {o : Obj} {v : Option Value} (h : o.data = .cell v) : ¬ Imm o := by
  rintro (⟨_, _, rfl⟩ | ⟨_, rfl⟩) <;> cases h
/-- every such object of h stands in h' -/
def TupKeep (h h' : Heap) : Prop := ∀ a o, Imm o → h.get? a = some o → h'.get? a = some o

theorem TupKeep.refl (h : Heap) : TupKeep h h := fun _ _ _ e => e
theorem TupKeep.trans {h1 h2 h3 : Heap} (x : TupKeep h1 h2) (y : TupKeep h2 h3) : TupKeep h1 h3 := fun a i n e => y a i n (x a i n e)

mutual
theorem VR.mono {h h' : Heap} (k : TupKeep h h') : ∀ {v : Value} {x : V}, VR h v x → VR h' v x
  | _, _, .none => .none
  | _, _, .bool b => .bool b
  | _, _, .int i t => .int i t
  | _, _, .str s t => .str s t
  | _, _, .typ n => .typ n
  | _, _, .blt i => .blt i
  | _, _, .ref a => .ref a
  | _, _, .tup e r => .tup (k _ _ (.tup _ _) e) (VRs.mono k r)
  | _, _, .rng e => .rng (k _ _ (.inr ⟨_, rfl⟩) e)
theorem VRs.mono {h h' : Heap} (k : TupKeep h h') : ∀ {v : List Value} {x : List V}, VRs h v x → VRs h' v x
  | _, _, .nil => .nil
  | _, _, .cons a b => .cons (VR.mono k a) (VRs.mono k b)
end

theorem VRs.length {h : Heap} : ∀ {v : List Value} {x : List V}, VRs h v x → v.length = x.length
  | _, _, .nil => rfl
  | _, _, .cons _ b => congrArg (· + 1) (VRs.length b)

theorem VRs.append {h : Heap} : ∀ {v : List Value} {x : List V} {v' : List Value} {x' : List V}, VRs h v x → VRs h v' x' → VRs h (v ++ v') (x ++ x')
  | _, _, _, _, .nil, r => r
  | _, _, _, _, .cons a b, r => .cons a (VRs.append b r)

theorem VRs.get {h : Heap} : ∀ {v : List Value} {x : List V}, VRs h v x → ∀ {i : Nat} {y : V}, x[i]? = some y → ∃ u, v[i]? = some u ∧ VR h u y
  | _, _, .nil, _, _, e => by simp at e
  | _, _, .cons a b, 0, _, e => by simp at e; subst e; exact ⟨_, rfl, a⟩
  | _, _, .cons a b, i + 1, _, e => by
    obtain ⟨u, h1, h2⟩ := VRs.get b (i := i) (by simpa using e)
    exact ⟨u, by simpa using h1, h2⟩

theorem VRs.get' {h : Heap} : ∀ {v : List Value} {x : List V}, VRs h v x → ∀ {i : Nat} {u : Value}, v[i]? = some u → ∃ y, x[i]? = some y ∧ VR h u y
  | _, _, .nil, _, _, e => by simp at e
  | _, _, .cons a b, 0, _, e => by simp at e; subst e; exact ⟨_, rfl, a⟩
  | _, _, .cons a b, i + 1, _, e => by
    obtain ⟨u, h1, h2⟩ := VRs.get' b (i := i) (by simpa using e)
    exact ⟨u, by simpa using h1, h2⟩

theorem VRs.take {h : Heap} : ∀ {v : List Value} {x : List V}, VRs h v x → ∀ n : Nat, VRs h (v.take n) (x.take n)
  | _, _, .nil, n => by simp; exact .nil
  | _, _, .cons a b, 0 => by simp; exact .nil
  | _, _, .cons a b, n + 1 => by simp; exact .cons a (VRs.take b n)
theorem VRs.drop {h : Heap} : ∀ {v : List Value} {x : List V}, VRs h v x → ∀ n : Nat, VRs h (v.drop n) (x.drop n)
  | _, _, .nil, n => by simp; exact .nil
  | _, _, .cons a b, 0 => by simp; exact .cons a b
  | _, _, .cons a b, n + 1 => by simp; exact VRs.drop b n

/-- the run's surroundings -/
structure Cx where
  prog : Program
  w : World
  h₀ : Heap
  gens : Array GenState
  os : OsState
  n₀ : Nat
  low : ∀ b o, h₀.get? b = some o → b < n₀
  top : ∀ m, n₀ = m + 1 → ∃ o, h₀.get? m = some o
  K : Frag
  KX : K.In h₀
  mg : Str → Option Value
  mb : Str → Option Value
  hg : h₀.Ns mainGlobals mg
  hb : h₀.Ns builtinsNs mb
  blt : ∀ x : Str, x ≠ "__name__" → mb x = bootBuiltins x
  lim : h₀.NoLimit
abbrev Cx.M (C : Cx) : Model := model C.prog C.w

/-- abstract objects -/
inductive O where
  | list (vs : List V)
  | sd (es : List (Str × V))
  | id (es : List (Int × V))
  | inst (cls dx : Addr)

abbrev Store := Addr → Option O
def Store.upd (σ : Store) (a : Addr) (o : O) : Store := fun b => if b = a then some o else σ b
theorem Store.upd_self (σ : Store) (a : Addr) (o : O) : σ.upd a o a = some o := by simp [Store.upd]
theorem Store.upd_ne (σ : Store) {a b : Addr} (o : O) (h : b ≠ a) : σ.upd a o b = σ b := by simp [Store.upd, h]

inductive PR {K : Type} (h : Heap) : List (K × Value) → List (K × V) → Prop
  | nil : PR h [] []
  | cons {k : K} {v : Value} {x : V} {r : List (K × Value)} {r' : List (K × V)} : VR h v x → PR h r r' → PR h ((k, v) :: r) ((k, x) :: r')

theorem PR.mono {K : Type} {h h' : Heap} (k : TupKeep h h') : ∀ {a : List (K × Value)} {b : List (K × V)}, PR h a b → PR h' a b
  | _, _, .nil => .nil
  | _, _, .cons x y => .cons (x.mono k) (PR.mono k y)

abbrev instO (C dx : Addr) : Obj := { cls := .ref C, dict := some dx }

def Rep (C : Cx) (h : Heap) (a : Addr) : O → Prop
  | .list vs => ∃ items, h.PlainList a items ∧ VRs h items.toList vs
  | .sd es => ∃ kvs, h.DictOf (strKind C.prog C.w) a kvs ∧ PR h kvs es
  | .id es => ∃ kvs, h.DictOf (intKind C.prog C.w) a kvs ∧ PR h kvs es
  | .inst c dx => h.get? a = some (instO c dx)

theorem Rep.isSome {C : Cx} {h : Heap} {a : Addr} {o : O} (r : Rep C h a o) : ∃ x, h.get? a = some x ∧ ¬ Imm x := by
  cases o with
  | list vs => obtain ⟨items, ⟨n, e⟩, _⟩ := r; exact ⟨_, e, Imm.not (by simp) (by simp)⟩
  | sd es =>
    obtain ⟨kvs, d, _⟩ := r
    obtain ⟨o, es, ep, ho, hx, _⟩ := d
    exact ⟨o, ho, Imm.not (by rw [hx.1]; decide) (by rw [hx.1]; decide)⟩
  | id es =>
    obtain ⟨kvs, d, _⟩ := r
    obtain ⟨o, es, ep, ho, hx, _⟩ := d
    exact ⟨o, ho, Imm.not (by rw [hx.1]; decide) (by rw [hx.1]; decide)⟩
  | inst c dx => exact ⟨_, r, Imm.not (fun z => by cases z) (fun z => by cases z)⟩

/-- a represented object stands as it stood where it is kept itself and all tuples are -/
theorem Rep.at {C : Cx} {h h' : Heap} {a : Addr} {o : O} (r : Rep C h a o) (k : ∀ x, h.get? a = some x → h'.get? a = some x) (t : TupKeep h h') : Rep C h' a o := by
  cases o with
  | list vs => obtain ⟨items, p, q⟩ := r; exact ⟨items, p.at k, q.mono t⟩
  | sd es =>
    obtain ⟨kvs, d, q⟩ := r
    obtain ⟨o, es', ep, ho, rest⟩ := d
    exact ⟨kvs, ⟨o, es', ep, k _ ho, rest⟩, q.mono t⟩
  | id es =>
    obtain ⟨kvs, d, q⟩ := r
    obtain ⟨o, es', ep, ho, rest⟩ := d
    exact ⟨kvs, ⟨o, es', ep, k _ ho, rest⟩, q.mono t⟩
  | inst c dx => exact k _ r

structure St (C : Cx) (σ : Store) (s : Shared) : Prop where
  base : ∀ b o, C.h₀.get? b = some o → s.heap.get? b = some o
  rep : ∀ a o, σ a = some o → Rep C s.heap a o
  above : ∀ a o, σ a = some o → C.n₀ ≤ a
  gens : s.gens = C.gens
  os : s.os = C.os

theorem St.size {C : Cx} {σ : Store} {s : Shared} (S : St C σ s) : C.n₀ ≤ s.heap.objs.size := by
  cases q : C.n₀ with
  | zero => exact Nat.zero_le _
  | succ m =>
    obtain ⟨o, e⟩ := C.top m q
    exact Heap.lt_size (S.base m o e)

structure Evo (σ : Store) (h : Heap) (σ' : Store) (h' : Heap) : Prop where
  keep : ∀ b o, h.get? b = some o → σ b = none → h'.get? b = some o
  dom : ∀ b o, σ' b = some o → (∃ o', σ b = some o') ∨ h.get? b = none
  mono : ∀ b o, σ b = some o → ∃ o', σ' b = some o'
  tup : TupKeep h h'

theorem Evo.refl (σ : Store) (h : Heap) : Evo σ h σ h := ⟨fun _ _ e _ => e, fun _ _ e => .inl ⟨_, e⟩, fun _ _ e => ⟨_, e⟩, .refl _⟩
theorem Evo.trans {σ1 σ2 σ3 : Store} {h1 h2 h3 : Heap} (x : Evo σ1 h1 σ2 h2) (y : Evo σ2 h2 σ3 h3) : Evo σ1 h1 σ3 h3 := by
  refine ⟨fun b o e n => ?_, fun b o e => ?_, fun b o e => ?_, x.tup.trans y.tup⟩
  · refine y.keep b o (x.keep b o e n) ?_
    cases q : σ2 b with
    | none => rfl
    | some o2 =>
      rcases x.dom b o2 q with ⟨o', e'⟩ | e'
      · rw [n] at e'; cases e'
      · rw [e] at e'; cases e'
  · rcases y.dom b o e with ⟨o', e'⟩ | e'
    · exact x.dom b o' e'
    · cases q : h1.get? b with
      | none => exact .inr rfl
      | some o1 =>
        left
        cases q' : σ1 b with
        | some o' => exact ⟨o', rfl⟩
        | none => rw [x.keep b o1 q q'] at e'; cases e'
  · obtain ⟨o', e'⟩ := x.mono b o e
    exact y.mono b o' e'

/-- raw raised values and states -/
abbrev XP := Value → Shared → Prop

/-- what a tree of values gives -/
def EP (C : Cx) (σ : Store) (h : Heap) (Q : V → Store → Prop) (v : Value) (s' : Shared) : Prop :=
  ∃ x σ', Q x σ' ∧ VR s'.heap v x ∧ St C σ' s' ∧ Evo σ h σ' s'.heap

theorem EP.mono {C : Cx} {σ : Store} {h : Heap} {Q Q' : V → Store → Prop} {v : Value} {s' : Shared} (x : EP C σ h Q v s') (k : ∀ x σ', Q x σ' → Q' x σ') : EP C σ h Q' v s' :=
  let ⟨a, b, c, d⟩ := x; ⟨a, b, k _ _ c, d⟩
theorem EP.after {C : Cx} {σ σ1 : Store} {h h1 : Heap} {Q : V → Store → Prop} {v : Value} {s' : Shared} (x : EP C σ1 h1 Q v s') (k : Evo σ h σ1 h1) : EP C σ h Q v s' :=
  let ⟨a, b, c, d, e, f⟩ := x; ⟨a, b, c, d, e, k.trans f⟩

/-- names to values -/
abbrev Rho := List (Str × V)
def Rho.get : Rho → Str → Option V
  | [], _ => none
  | (y, v) :: r, x => if x = y then some v else Rho.get r x
def Rho.put : Rho → Str → V → Rho
  | [], x, v => [(x, v)]
  | (y, u) :: r, x, v => if x = y then (x, v) :: r else (y, u) :: Rho.put r x v
theorem Rho.get_hit {x : Str} {v : V} {r : Rho} : Rho.get ((x, v) :: r) x = some v := by simp [Rho.get]
theorem Rho.get_miss {x y : Str} {u : V} {v : Option V} {r : Rho} (h : x ≠ y) (k : Rho.get r x = v) : Rho.get ((y, u) :: r) x = v := by simp [Rho.get, h, k]
theorem Rho.put_nil {x : Str} {v : V} : Rho.put [] x v = [(x, v)] := rfl
theorem Rho.put_hit {x : Str} {u v : V} {r : Rho} : Rho.put ((x, u) :: r) x v = (x, v) :: r := by simp [Rho.put]
theorem Rho.put_miss {x y : Str} {u v : V} {r r' : Rho} (h : x ≠ y) (k : Rho.put r x v = r') : Rho.put ((y, u) :: r) x v = (y, u) :: r' := by simp [Rho.put, h, k]
theorem Rho.get_put (x : Str) (v : V) : ∀ (r : Rho) (y : Str), Rho.get (Rho.put r x v) y = if y = x then some v else Rho.get r y
  | [], y => by simp [Rho.put, Rho.get]
  | (z, u) :: r, y => by
    have ih := Rho.get_put x v r y
    by_cases h : x = z
    · subst h
      simp only [Rho.put, if_true, Rho.get]
      by_cases h2 : y = x <;> simp [h2]
    · simp only [Rho.put, h, if_false, Rho.get]
      by_cases h2 : y = z
      · subst h2; simp [Ne.symm h]
      · simp [h2, ih]

/-- the frame -/
structure Fm (C : Cx) (σ : Store) (h : Heap) (env : Env) (ρ : Rho) : Prop where
  fn : env.scope.kind = .function
  loc : ∃ m, h.Ns env.locals m ∧ ∀ x v, env.kindOf x = some .local → ρ.get x = some v → ∃ u, m x = some u ∧ VR h u v
  locs : σ env.locals = none
  abv : C.n₀ ≤ env.locals
  cell : ∀ x c, env.cells.lookup x = some c → ∃ ov, h.IsCell c ov ∧ (∀ v, ρ.get x = some v → ∃ u, ov = some u ∧ VR h u v) 
  ncell : ∀ x c, env.cells.lookup x = some c → σ c = none ∧ c ≠ env.locals ∧ C.n₀ ≤ c
  apart : ∀ x y c, env.cells.lookup x = some c → env.cells.lookup y = some c → x = y

theorem isCell_at {h h' : Heap} {c : Addr} {v : Option Value} (x : h.IsCell c v) (k : ∀ o, h.get? c = some o → h'.get? c = some o) : h'.IsCell c v := by
  unfold Heap.IsCell at *
  obtain ⟨o, e, r⟩ := x
  exact ⟨o, k _ e, r⟩

theorem Fm.evo {C : Cx} {σ σ' : Store} {h h' : Heap} {env : Env} {ρ : Rho} (F : Fm C σ h env ρ) (k : Evo σ h σ' h') : Fm C σ' h' env ρ := by
  obtain ⟨f1, ⟨m, hm, f2⟩, f3, f5, f6, f7, f8⟩ := F
  obtain ⟨o, es, ep, ho, rest⟩ := hm
  have ho' := k.keep _ _ ho f3
  have nd : ∀ b o, h.get? b = some o → σ b = none → σ' b = none := fun b o e n => by
    cases q : σ' b with
    | none => rfl
    | some o2 =>
      rcases k.dom b o2 q with ⟨o', e'⟩ | e'
      · rw [n] at e'; cases e'
      · rw [e] at e'; cases e'
  refine ⟨f1, ⟨m, ⟨o, es, ep, ho', rest⟩, fun x v hx hv => ?_⟩, nd _ _ ho f3, f5, fun x c hc => ?_, fun x c hc => ?_, f8⟩
  · obtain ⟨u, a, b⟩ := f2 x v hx hv
    exact ⟨u, a, b.mono k.tup⟩
  · obtain ⟨ov, a, b⟩ := f6 x c hc
    obtain ⟨n1, _, _⟩ := f7 x c hc
    refine ⟨ov, isCell_at a fun o e => k.keep _ _ e n1, fun v hv => ?_⟩
    obtain ⟨u, p, q⟩ := b v hv
    exact ⟨u, p, q.mono k.tup⟩
  · obtain ⟨n1, n2, n3⟩ := f7 x c hc
    obtain ⟨ov, a, b⟩ := f6 x c hc
    have a' := a
    unfold Heap.IsCell at a'
    obtain ⟨o, e, _⟩ := a'
    exact ⟨nd _ _ e n1, n2, n3⟩

/-- an expression's evaluation -/
def Ev (C : Cx) (A : Around) (env : Env) (e : Expr) (ρ : Rho) (σ : Store) (Q : V → Store → Prop) (X : XP) : Prop :=
  ∀ s, St C σ s → Fm C σ s.heap env ρ → wpAny C.M A (eval e env) (EP C σ s.heap Q) X s

/-- a test -/
def Tst (C : Cx) (A : Around) (env : Env) (e : Expr) (ρ : Rho) (σ : Store) (Q : Bool → Store → Prop) (X : XP) : Prop :=
  ∀ s, St C σ s → Fm C σ s.heap env ρ → wpAny C.M A (isTrue e env (eval e env)) (fun b s' => ∃ σ', Q b σ' ∧ St C σ' s' ∧ Evo σ s.heap σ' s'.heap) X s

def BinWP (C : Cx) (A : Around) (op : Operator) (x y : V) (σ : Store) (Q : V → Store → Prop) (X : XP) : Prop :=
  ∀ s a b, St C σ s → VR s.heap a x → VR s.heap b y → wpAny C.M A (binaryOp op a b) (EP C σ s.heap Q) X s
def CmpWP (C : Cx) (A : Around) (op : CmpOp) (x y : V) (σ : Store) (Q : V → Store → Prop) (X : XP) : Prop :=
  ∀ s a b, St C σ s → VR s.heap a x → VR s.heap b y → wpAny C.M A (compareOp op a b) (EP C σ s.heap Q) X s
def UnWP (C : Cx) (A : Around) (op : UnaryOp) (x : V) (σ : Store) (Q : V → Store → Prop) (X : XP) : Prop :=
  ∀ s a, St C σ s → VR s.heap a x → wpAny C.M A (unaryOp op a) (EP C σ s.heap Q) X s
def TruWP (C : Cx) (A : Around) (x : V) (σ : Store) (Q : Bool → Store → Prop) (X : XP) : Prop :=
  ∀ s a, St C σ s → VR s.heap a x → wpAny C.M A (truthy a) (fun b s' => ∃ σ', Q b σ' ∧ St C σ' s' ∧ Evo σ s.heap σ' s'.heap) X s

section
variable {C : Cx} {A : Around} {env : Env} {ρ : Rho} {σ : Store} {X : XP}

theorem Ev.bin {l r : Expr} {op : Operator} {pos : Pos} {Q : V → Store → Prop}
    (h : Ev C A env l ρ σ (fun x σ1 => Ev C A env r ρ σ1 (fun y σ2 => BinWP C A op x y σ2 Q X) X) X) : Ev C A env (.BinOp l op r pos) ρ σ Q X := by
  intro s S F
  refine wpAny_BinOp (wpAny_mono (h s S F) ?_ fun _ _ z => z)
  rintro a s1 ⟨x, σ1, h1, r1, S1, e1⟩
  refine wpAny_mono (h1 s1 S1 (F.evo e1)) ?_ fun _ _ z => z
  rintro b s2 ⟨y, σ2, h2, r2, S2, e2⟩
  exact wpAny_mono (h2 s2 a b S2 (r1.mono e2.tup) r2) (fun _ _ z => (z.after e2).after e1) fun _ _ z => z
end

end Mine

set_option autoImplicit false
set_option linter.unusedVariables false
namespace Mine
open PySem PySem.W

theorem St.toks {C : Cx} {σ : Store} {s : Shared} (x : St C σ s) (t : Nat) : St C σ { s with toks := t } := ⟨x.base, x.rep, x.above, x.gens, x.os⟩

section
variable {C : Cx} {A : Around} {env : Env} {ρ : Rho} {σ : Store} {X : XP}

theorem EP.pure {s : Shared} {Q : V → Store → Prop} {v : Value} {x : V} (S : St C σ s) (q : Q x σ) (r : VR s.heap v x) : EP C σ s.heap Q v s :=
  ⟨x, σ, q, r, S, .refl ..⟩
theorem EP.pureT {s : Shared} {Q : V → Store → Prop} {v : Value} {x : V} {t : Nat} (S : St C σ s) (q : Q x σ) (r : VR s.heap v x) : EP C σ s.heap Q v { s with toks := t } :=
  ⟨x, σ, q, r, S.toks t, .refl ..⟩

theorem Ev.mono {e : Expr} {Q Q' : V → Store → Prop} (h : Ev C A env e ρ σ Q X) (k : ∀ x σ', Q x σ' → Q' x σ') : Ev C A env e ρ σ Q' X :=
  fun s S F => wpAny_mono (h s S F) (fun _ _ z => z.mono k) fun _ _ z => z

/- constants -/
theorem Ev.cint {i : Int} {k : Nat} {pos : Pos} {Q : V → Store → Prop} (h : Q (.int i) σ) : Ev C A env (.Constant (.int i) k pos) ρ σ Q X :=
  fun _ S _ => wpAny_Constant_int (EP.pureT S h (.int _ _))
theorem Ev.cstr {i : Str} {k : Nat} {pos : Pos} {Q : V → Store → Prop} (h : Q (.str i) σ) : Ev C A env (.Constant (.str i) k pos) ρ σ Q X :=
  fun _ S _ => wpAny_Constant_str (EP.pureT S h (.str _ _))
theorem Ev.cbool {i : Bool} {k : Nat} {pos : Pos} {Q : V → Store → Prop} (h : Q (.bool i) σ) : Ev C A env (.Constant (.bool i) k pos) ρ σ Q X :=
  fun _ S _ => wpAny_Constant_bool (EP.pure S h (.bool _))
theorem Ev.cnone {k : Nat} {pos : Pos} {Q : V → Store → Prop} (h : Q .none σ) : Ev C A env (.Constant .none k pos) ρ σ Q X :=
  fun _ S _ => wpAny_Constant_none (EP.pure S h .none)

/- names -/
theorem Ev.loc {x : Str} {pos : Pos} {v : V} {Q : V → Store → Prop} (hk : env.kindOf x = some .local) (hv : ρ.get x = some v) (h : Q v σ)
    (hd : (x == ("__debug__" : Str)) = false) : Ev C A env (.Name x pos) ρ σ Q X := by
  intro s S F
  obtain ⟨m, hm, f⟩ := F.loc
  obtain ⟨u, hu, r⟩ := f x v hk hv
  exact wpAny_Name (wpAny_loadName_local F.fn hk hm hu (EP.pure S h r)) hd
theorem Ev.cel {x : Str} {pos : Pos} {v : V} {c : Addr} {Q : V → Store → Prop} (hk : env.kindOf x = some .cell) (hc : env.cells.lookup x = some c) (hv : ρ.get x = some v) (h : Q v σ)
    (hd : (x == ("__debug__" : Str)) = false) : Ev C A env (.Name x pos) ρ σ Q X := by
  intro s S F
  obtain ⟨ov, a, b⟩ := F.cell x c hc
  obtain ⟨u, rfl, r⟩ := b v hv
  exact wpAny_Name (wpAny_loadName_cell F.fn hk hc a (EP.pure S h r)) hd
theorem Ev.free {x : Str} {pos : Pos} {v : V} {c : Addr} {Q : V → Store → Prop} (hk : env.kindOf x = some .free) (hc : env.cells.lookup x = some c) (hv : ρ.get x = some v) (h : Q v σ)
    (hd : (x == ("__debug__" : Str)) = false) (hn : (x == ("__classdict__" : Str)) = false) : Ev C A env (.Name x pos) ρ σ Q X := by
  intro s S F
  obtain ⟨ov, a, b⟩ := F.cell x c hc
  obtain ⟨u, rfl, r⟩ := b v hv
  exact wpAny_Name (wpAny_loadName_free F.fn hk hc a (EP.pure S h r) hn) hd

/- compare -/
theorem Ev.cmp {l r : Expr} {op : CmpOp} {pos : Pos} {Q : V → Store → Prop}
    (h : Ev C A env l ρ σ (fun x σ1 => Ev C A env r ρ σ1 (fun y σ2 => CmpWP C A op x y σ2 Q X) X) X) (hm : behindInMarks op r = false := by kernel_rfl) : Ev C A env (.Compare l [op] [r] pos) ρ σ Q X := by
  intro s S F
  refine wpAny_Compare1 (wpAny_mono (h s S F) ?_ fun _ _ z => z) hm
  rintro a s1 ⟨x, σ1, h1, r1, S1, e1⟩
  refine wpAny_mono (h1 s1 S1 (F.evo e1)) ?_ fun _ _ z => z
  rintro b s2 ⟨y, σ2, h2, r2, S2, e2⟩
  exact wpAny_mono (h2 s2 a b S2 (r1.mono e2.tup) r2) (fun _ _ z => (z.after e2).after e1) fun _ _ z => z

theorem Ev.un {e : Expr} {op : UnaryOp} {pos : Pos} {Q : V → Store → Prop} (h : Ev C A env e ρ σ (fun x σ1 => UnWP C A op x σ1 Q X) X) : Ev C A env (.UnaryOp op e pos) ρ σ Q X := by
  intro s S F
  refine wpAny_UnaryOp (wpAny_mono (h s S F) ?_ fun _ _ z => z)
  rintro a s1 ⟨x, σ1, h1, r1, S1, e1⟩
  exact wpAny_mono (h1 s1 a S1 r1) (fun _ _ z => z.after e1) fun _ _ z => z

/-- a test's end -/
def TP (C : Cx) (σ : Store) (h : Heap) (Q : Bool → Store → Prop) (b : Bool) (s' : Shared) : Prop := ∃ σ', Q b σ' ∧ St C σ' s' ∧ Evo σ h σ' s'.heap
theorem TP.after {σ1 : Store} {h h1 : Heap} {Q : Bool → Store → Prop} {v : Bool} {s' : Shared} (x : TP C σ1 h1 Q v s') (k : Evo σ h σ1 h1) : TP C σ h Q v s' :=
  let ⟨a, b, c, d⟩ := x; ⟨a, b, c, k.trans d⟩
theorem TP.pure {s : Shared} {Q : Bool → Store → Prop} {v : Bool} (S : St C σ s) (q : Q v σ) : TP C σ s.heap Q v s := ⟨σ, q, S, .refl ..⟩

theorem Tst.mono {e : Expr} {Q Q' : Bool → Store → Prop} (h : Tst C A env e ρ σ Q X) (k : ∀ x σ', Q x σ' → Q' x σ') : Tst C A env e ρ σ Q' X :=
  fun s S F => wpAny_mono (h s S F) (fun _ _ ⟨a, b, c⟩ => ⟨a, k _ _ b, c⟩) fun _ _ z => z

theorem Tst.cmp {l r : Expr} {op : CmpOp} {pos : Pos} {Q : Bool → Store → Prop}
    (h : Ev C A env l ρ σ (fun x σ1 => Ev C A env r ρ σ1 (fun y σ2 => CmpWP C A op x y σ2 (fun c σ3 => TruWP C A c σ3 Q X) X) X) X) (hm : behindInMarks op r = false := by kernel_rfl) :
    Tst C A env (.Compare l [op] [r] pos) ρ σ Q X := by
  intro s S F
  refine wpAny_isTrue_Compare1 (wpAny_mono (h s S F) ?_ fun _ _ z => z) hm
  rintro a s1 ⟨x, σ1, h1, r1, S1, e1⟩
  refine wpAny_mono (h1 s1 S1 (F.evo e1)) ?_ fun _ _ z => z
  rintro b s2 ⟨y, σ2, h2, r2, S2, e2⟩
  refine wpAny_mono (h2 s2 a b S2 (r1.mono e2.tup) r2) ?_ fun _ _ z => z
  rintro c s3 ⟨z, σ3, h3, r3, S3, e3⟩
  exact wpAny_mono (h3 s3 c S3 r3) (fun _ _ z => TP.after z ((e1.trans e2).trans e3)) fun _ _ z => z

theorem Tst.not {e : Expr} {pos : Pos} {Q : Bool → Store → Prop} (h : Tst C A env e ρ σ (fun b σ' => Q (!b) σ') X) : Tst C A env (.UnaryOp .Not e pos) ρ σ Q X :=
  fun s S F => wpAny_isTrue_Not (h s S F)

/-- a test by its value -/
theorem Tst.val {e : Expr} {Q : Bool → Store → Prop} (h : Ev C A env e ρ σ (fun x σ1 => TruWP C A x σ1 Q X) X)
    (he : isTrue e env (eval e env) = (do let v ← eval e env; standAt e.pos; holding [v] (truthy v)) := by kernel_rfl) : Tst C A env e ρ σ Q X := by
  intro s S F
  refine wpAny_isTrue_value (wpAny_mono (h s S F) ?_ fun _ _ z => z) he
  rintro c s3 ⟨z, σ3, h3, r3, S3, e3⟩
  exact wpAny_mono (h3 s3 c S3 r3) (fun _ _ z => TP.after z e3) fun _ _ z => z

def AllT (C : Cx) (A : Around) (env : Env) (op : BoolOp) (es : List Expr) (ρ : Rho) (σ : Store) (Q : Bool → Store → Prop) (X : XP) : Prop :=
  ∀ s, St C σ s → Fm C σ s.heap env ρ → wpAny C.M A (allTrue op es env) (TP C σ s.heap Q) X s
theorem Tst.boolop {op : BoolOp} {es : List Expr} {pos : Pos} {Q : Bool → Store → Prop} (h : AllT C A env op es ρ σ Q X) : Tst C A env (.BoolOp op es pos) ρ σ Q X :=
  fun s S F => wpAny_isTrue_BoolOp (h s S F)
theorem AllT.and_nil {Q : Bool → Store → Prop} (h : Q true σ) : AllT C A env .And [] ρ σ Q X := fun s S _ => wpAny_allTrue_And_nil (TP.pure S h)
theorem AllT.or_nil {Q : Bool → Store → Prop} (h : Q false σ) : AllT C A env .Or [] ρ σ Q X := fun s S _ => wpAny_allTrue_Or_nil (TP.pure S h)
theorem AllT.and_cons {e : Expr} {es : List Expr} {Q : Bool → Store → Prop} (h : Tst C A env e ρ σ (fun b σ1 => if b then AllT C A env .And es ρ σ1 Q X else Q false σ1) X) : AllT C A env .And (e :: es) ρ σ Q X := by
  intro s S F
  refine wpAny_allTrue_And_cons (wpAny_mono (h s S F) ?_ fun _ _ z => z)
  rintro b s1 ⟨σ1, h1, S1, e1⟩
  cases b with
  | true => exact wpAny_mono (h1 s1 S1 (F.evo e1)) (fun _ _ z => TP.after z e1) fun _ _ z => z
  | false => exact ⟨σ1, h1, S1, e1⟩
theorem AllT.or_cons {e : Expr} {es : List Expr} {Q : Bool → Store → Prop} (h : Tst C A env e ρ σ (fun b σ1 => if b then Q true σ1 else AllT C A env .Or es ρ σ1 Q X) X) : AllT C A env .Or (e :: es) ρ σ Q X := by
  intro s S F
  refine wpAny_allTrue_Or_cons (wpAny_mono (h s S F) ?_ fun _ _ z => z)
  rintro b s1 ⟨σ1, h1, S1, e1⟩
  cases b with
  | false => exact wpAny_mono (h1 s1 S1 (F.evo e1)) (fun _ _ z => TP.after z e1) fun _ _ z => z
  | true => exact ⟨σ1, h1, S1, e1⟩

/- and, or as values -/
def BoolE (C : Cx) (A : Around) (env : Env) (pos : Pos) (op : BoolOp) (es : List Expr) (ρ : Rho) (σ : Store) (Q : V → Store → Prop) (X : XP) : Prop :=
  ∀ s, St C σ s → Fm C σ s.heap env ρ → wpAny C.M A (boolOp pos op (evalEach es env)) (EP C σ s.heap Q) X s
theorem Ev.boolop {op : BoolOp} {es : List Expr} {pos : Pos} {Q : V → Store → Prop} (h : BoolE C A env pos op es ρ σ Q X) : Ev C A env (.BoolOp op es pos) ρ σ Q X :=
  fun s S F => h s S F
theorem BoolE.one {op : BoolOp} {e : Expr} {pos : Pos} {Q : V → Store → Prop} (h : Ev C A env e ρ σ Q X) : BoolE C A env pos op [e] ρ σ Q X :=
  fun s S F => h s S F
theorem BoolE.and {e e' : Expr} {es : List Expr} {pos : Pos} {Q : V → Store → Prop}
    (h : Ev C A env e ρ σ (fun x σ1 => TruWP C A x σ1 (fun b σ2 => if b then BoolE C A env pos .And (e' :: es) ρ σ2 Q X else Q x σ2) X) X) : BoolE C A env pos .And (e :: e' :: es) ρ σ Q X := by
  intro s S F
  show wpAny C.M A (do
    let v ← eval e env
    standAt pos
    let t ← holding [v] (truthy v)
    match BoolOp.And, t with
    | .And, false | .Or, true => pure v
    | _, _ => boolOp pos .And (evalEach (e' :: es) env)) _ _ s
  refine wpAny_bind (wpAny_mono (h s S F) ?_ fun _ _ z => z)
  rintro v s1 ⟨x, σ1, h1, r1, S1, e1⟩
  refine wpAny_bind (wpAny_standAt (wpAny_bind (wpAny_holding (wpAny_mono (h1 s1 v S1 r1) ?_ fun _ _ z => z))))
  rintro t s2 ⟨σ2, h2, S2, e2⟩
  cases t with
  | true => exact wpAny_mono (h2 s2 S2 ((F.evo e1).evo e2)) (fun _ _ z => (z.after e2).after e1) fun _ _ z => z
  | false => exact wpAny_pure ⟨x, σ2, h2, r1.mono e2.tup, S2, e1.trans e2⟩
theorem BoolE.or {e e' : Expr} {es : List Expr} {pos : Pos} {Q : V → Store → Prop}
    (h : Ev C A env e ρ σ (fun x σ1 => TruWP C A x σ1 (fun b σ2 => if b then Q x σ2 else BoolE C A env pos .Or (e' :: es) ρ σ2 Q X) X) X) : BoolE C A env pos .Or (e :: e' :: es) ρ σ Q X := by
  intro s S F
  show wpAny C.M A (do
    let v ← eval e env
    standAt pos
    let t ← holding [v] (truthy v)
    match BoolOp.Or, t with
    | .And, false | .Or, true => pure v
    | _, _ => boolOp pos .Or (evalEach (e' :: es) env)) _ _ s
  refine wpAny_bind (wpAny_mono (h s S F) ?_ fun _ _ z => z)
  rintro v s1 ⟨x, σ1, h1, r1, S1, e1⟩
  refine wpAny_bind (wpAny_standAt (wpAny_bind (wpAny_holding (wpAny_mono (h1 s1 v S1 r1) ?_ fun _ _ z => z))))
  rintro t s2 ⟨σ2, h2, S2, e2⟩
  cases t with
  | false => exact wpAny_mono (h2 s2 S2 ((F.evo e1).evo e2)) (fun _ _ z => (z.after e2).after e1) fun _ _ z => z
  | true => exact wpAny_pure ⟨x, σ2, h2, r1.mono e2.tup, S2, e1.trans e2⟩

/- chains of two -/
theorem Ev.chain {l r1 r2 : Expr} {op1 op2 : CmpOp} {pos : Pos} {Q : V → Store → Prop}
    (h : Ev C A env l ρ σ (fun x σ1 => Ev C A env r1 ρ σ1 (fun y σ2 => CmpWP C A op1 x y σ2 (fun c σ3 => TruWP C A c σ3 (fun b σ4 =>
      if b then Ev C A env r2 ρ σ4 (fun z σ5 => CmpWP C A op2 y z σ5 Q X) X else Q c σ4) X) X) X) X)
    (hm : lastMarks [op1, op2] [r1, r2] = false := by kernel_rfl) : Ev C A env (.Compare l [op1, op2] [r1, r2] pos) ρ σ Q X := by
  intro s S F
  refine PyProof.Rows.Compare_chain (wpAny_mono (h s S F) ?_ fun _ _ z => z) hm
  rintro a s1 ⟨x, σ1, h1, v1, S1, e1⟩
  refine PyProof.Rows.chain_link (wpAny_mono (h1 s1 S1 (F.evo e1)) ?_ fun _ _ z => z)
  rintro b s2 ⟨y, σ2, h2, v2, S2, e2⟩
  refine wpAny_mono (h2 s2 a b S2 (v1.mono e2.tup) v2) ?_ fun _ _ z => z
  rintro c s3 ⟨z, σ3, h3, v3, S3, e3⟩
  refine wpAny_mono (h3 s3 c S3 v3) ?_ fun _ _ z => z
  rintro t s4 ⟨σ4, h4, S4, e4⟩
  have e14 := ((e1.trans e2).trans e3).trans e4
  cases t with
  | false => exact ⟨z, σ4, h4, v3.mono e4.tup, S4, e14⟩
  | true =>
    refine PyProof.Rows.chain_last (wpAny_mono (h4 s4 S4 (F.evo e14)) ?_ fun _ _ z => z)
    rintro d s5 ⟨z', σ5, h5, v5, S5, e5⟩
    exact wpAny_mono (h5 s5 b d S5 (((v2.mono e3.tup).mono e4.tup).mono e5.tup) v5) (fun _ _ z => z.after (e14.trans e5)) fun _ _ z => z
theorem Tst.chain {l r1 r2 : Expr} {op1 op2 : CmpOp} {pos : Pos} {Q : Bool → Store → Prop}
    (h : Ev C A env l ρ σ (fun x σ1 => Ev C A env r1 ρ σ1 (fun y σ2 => CmpWP C A op1 x y σ2 (fun c σ3 => TruWP C A c σ3 (fun b σ4 =>
      if b then Ev C A env r2 ρ σ4 (fun z σ5 => CmpWP C A op2 y z σ5 (fun c σ6 => TruWP C A c σ6 Q X) X) X else Q false σ4) X) X) X) X)
    (hm : lastMarks [op1, op2] [r1, r2] = false := by kernel_rfl) : Tst C A env (.Compare l [op1, op2] [r1, r2] pos) ρ σ Q X := by
  intro s S F
  refine PyProof.Rows.isTrue_chain (wpAny_mono (h s S F) ?_ fun _ _ z => z) hm
  rintro a s1 ⟨x, σ1, h1, v1, S1, e1⟩
  refine PyProof.Rows.test_link (wpAny_mono (h1 s1 S1 (F.evo e1)) ?_ fun _ _ z => z)
  rintro b s2 ⟨y, σ2, h2, v2, S2, e2⟩
  refine wpAny_mono (h2 s2 a b S2 (v1.mono e2.tup) v2) ?_ fun _ _ z => z
  rintro c s3 ⟨z, σ3, h3, v3, S3, e3⟩
  refine wpAny_mono (h3 s3 c S3 v3) ?_ fun _ _ z => z
  rintro t s4 ⟨σ4, h4, S4, e4⟩
  have e14 := ((e1.trans e2).trans e3).trans e4
  cases t with
  | false => exact ⟨σ4, h4, S4, e14⟩
  | true =>
    refine PyProof.Rows.test_last (wpAny_mono (h4 s4 S4 (F.evo e14)) ?_ fun _ _ z => z)
    rintro d s5 ⟨z', σ5, h5, v5, S5, e5⟩
    refine wpAny_mono (h5 s5 b d S5 (((v2.mono e3.tup).mono e4.tup).mono e5.tup) v5) ?_ fun _ _ z => z
    rintro f s6 ⟨z'', σ6, h6, v6, S6, e6⟩
    exact wpAny_mono (h6 s6 f S6 v6) (fun _ _ z => TP.after z ((e14.trans e5).trans e6)) fun _ _ z => z

/- ints -/
theorem BinWP.add_int {a b : Int} {Q : V → Store → Prop} (h : Q (.int (a + b)) σ) : BinWP C A .Add (.int a) (.int b) σ Q X := by
  rintro s _ _ S ⟨⟩ ⟨⟩; exact PySem.P.add_int (EP.pureT S h (.int _ _))
theorem BinWP.sub_int {a b : Int} {Q : V → Store → Prop} (h : Q (.int (a - b)) σ) : BinWP C A .Sub (.int a) (.int b) σ Q X := by
  rintro s _ _ S ⟨⟩ ⟨⟩; exact PySem.P.sub_int (EP.pureT S h (.int _ _))
theorem BinWP.mul_int {a b : Int} {Q : V → Store → Prop} (h : Q (.int (a * b)) σ) (hm : IntMulOk a b) : BinWP C A .Mult (.int a) (.int b) σ Q X := by
  rintro s _ _ S ⟨⟩ ⟨⟩; exact PySem.P.mul_int (EP.pureT S h (.int _ _)) hm
theorem BinWP.fdiv_int {a b : Int} {Q : V → Store → Prop} (hb : b ≠ 0) (hs : b.natAbs < 1073741824) (h : Q (.int (a.fdiv b)) σ) : BinWP C A .FloorDiv (.int a) (.int b) σ Q X := by
  rintro s _ _ S ⟨⟩ ⟨⟩; exact PyProof.Rows.floordiv_int hb (EP.pureT S h (.int _ _)) (.inl (PyProof.noPylong_small hs))
theorem BinWP.fmod_int {a b : Int} {Q : V → Store → Prop} (hb : b ≠ 0) (h : Q (.int (a.fmod b)) σ) : BinWP C A .Mod (.int a) (.int b) σ Q X := by
  rintro s _ _ S ⟨⟩ ⟨⟩; exact PyProof.Rows.mod_int' hb (EP.pureT S h (.int _ _))
theorem UnWP.neg_int {a : Int} {Q : V → Store → Prop} (h : Q (.int (-a)) σ) : UnWP C A .USub (.int a) σ Q X := by
  rintro s _ S ⟨⟩; exact PySem.P.neg_int (EP.pureT S h (.int _ _))
theorem CmpWP.lt_int {a b : Int} {Q : V → Store → Prop} (h : Q (.bool (decide (a < b))) σ) : CmpWP C A .Lt (.int a) (.int b) σ Q X := by
  rintro s _ _ S ⟨⟩ ⟨⟩; exact PySem.P.lt_int (EP.pure S h (.bool _))
theorem CmpWP.le_int {a b : Int} {Q : V → Store → Prop} (h : Q (.bool (decide (a ≤ b))) σ) : CmpWP C A .LtE (.int a) (.int b) σ Q X := by
  rintro s _ _ S ⟨⟩ ⟨⟩; exact PySem.P.le_int (EP.pure S h (.bool _))
theorem CmpWP.gt_int {a b : Int} {Q : V → Store → Prop} (h : Q (.bool (decide (b < a))) σ) : CmpWP C A .Gt (.int a) (.int b) σ Q X := by
  rintro s _ _ S ⟨⟩ ⟨⟩; exact PySem.P.gt_int (EP.pure S h (.bool _))
theorem CmpWP.ge_int {a b : Int} {Q : V → Store → Prop} (h : Q (.bool (decide (b ≤ a))) σ) : CmpWP C A .GtE (.int a) (.int b) σ Q X := by
  rintro s _ _ S ⟨⟩ ⟨⟩; exact PySem.P.ge_int (EP.pure S h (.bool _))
theorem CmpWP.eq_int {a b : Int} {Q : V → Store → Prop} (h : Q (.bool (a == b)) σ) : CmpWP C A .Eq (.int a) (.int b) σ Q X := by
  rintro s _ _ S ⟨⟩ ⟨⟩; exact PySem.P.eq_int (EP.pure S h (.bool _))
theorem CmpWP.ne_int {a b : Int} {Q : V → Store → Prop} (h : Q (.bool (a != b)) σ) : CmpWP C A .NotEq (.int a) (.int b) σ Q X := by
  rintro s _ _ S ⟨⟩ ⟨⟩; exact PySem.P.ne_int (EP.pure S h (.bool _))
/- strs -/
theorem BinWP.add_str {a b : Str} {Q : V → Store → Prop} (h : Q (.str (a ++ b)) σ) (hs : a.length + b.length ≤ sizeLine) : BinWP C A .Add (.str a) (.str b) σ Q X := by
  rintro s _ _ S ⟨⟩ ⟨⟩; exact PyProof.Rows.add_str (fun _ _ => EP.pureT S h (.str _ _)) hs
theorem CmpWP.eq_str {a b : Str} {Q : V → Store → Prop} (h : Q (.bool (a == b)) σ) : CmpWP C A .Eq (.str a) (.str b) σ Q X := by
  rintro s _ _ S ⟨⟩ ⟨⟩; exact PyProof.Rows.eq_str (EP.pure S h (.bool _))
theorem CmpWP.ne_str {a b : Str} {Q : V → Store → Prop} (h : Q (.bool (a != b)) σ) : CmpWP C A .NotEq (.str a) (.str b) σ Q X := by
  rintro s _ _ S ⟨⟩ ⟨⟩; exact PyProof.Rows.ne_str (EP.pure S h (.bool _))
/- truth -/
theorem TruWP.bool {b : Bool} {Q : Bool → Store → Prop} (h : Q b σ) : TruWP C A (.bool b) σ Q X := by
  rintro s _ S ⟨⟩; exact wpAny_truthy_bool (TP.pure S h)
end

end Mine

set_option autoImplicit false
set_option linter.unusedVariables false
namespace Mine
open PySem PySem.W

section
variable {C : Cx} {A : Around} {env : Env} {ρ : Rho} {σ : Store} {X : XP} {s : Shared}

theorem tupKeep_sameBut {h h' : Heap} {a : Addr} (hs : Heap.SameBut a h h') (hn : ∀ o, h.get? a = some o → ¬ Imm o) : TupKeep h h' := fun b o i e => by
  by_cases q : b = a
  · subst q; exact absurd i (hn _ e)
  · exact (hs.2 b q).trans e
theorem Rep.notTup {h : Heap} {a : Addr} {o : O} (r : Rep C h a o) : ∀ o, h.get? a = some o → ¬ Imm o := fun o e => by
  obtain ⟨x, hx, h1⟩ := r.isSome
  rw [hx] at e; cases e; exact h1

theorem St.ne_of {a b : Addr} {o : O} (S : St C σ s) (ha : σ a = some o) (hb : σ b = none) : b ≠ a := fun e => by rw [e, ha] at hb; cases hb

theorem St.set {o o' : O} {a : Addr} {h' : Heap} {t : Nat} (S : St C σ s) (ha : σ a = some o) (hb : Heap.SameBut a s.heap h') (r : Rep C h' a o') :
    St C (σ.upd a o') { s with heap := h', toks := t } ∧ Evo σ s.heap (σ.upd a o') h' := by
  have tk : TupKeep s.heap h' := tupKeep_sameBut hb (S.rep a o ha).notTup
  refine ⟨⟨fun b x e => ?_, fun b x e => ?_, fun b x e => ?_, S.gens, S.os⟩, fun b x e n => ?_, fun b x e => ?_, fun b x e => ?_, tk⟩
  · have : b ≠ a := fun q => by
      subst q
      exact absurd (C.low b x e) (Nat.not_lt.mpr (S.above b o ha))
    exact (hb.2 b this).trans (S.base b x e)
  · by_cases q : b = a
    · subst q; rw [Store.upd_self] at e; cases e; exact r
    · rw [Store.upd_ne _ _ q] at e
      exact (S.rep b x e).at (fun y hy => (hb.2 b q).trans hy) tk
  · by_cases q : b = a
    · subst q; exact S.above b o ha
    · rw [Store.upd_ne _ _ q] at e; exact S.above b x e
  · exact (hb.2 b (S.ne_of ha n)).trans e
  · left
    by_cases q : b = a
    · subst q; exact ⟨_, ha⟩
    · rw [Store.upd_ne _ _ q] at e; exact ⟨_, e⟩
  · by_cases q : b = a
    · subst q; exact ⟨_, Store.upd_self ..⟩
    · exact ⟨x, by rw [Store.upd_ne _ _ q]; exact e⟩

theorem St.fresh (S : St C σ s) : σ s.heap.objs.size = none := by
  cases q : σ s.heap.objs.size with
  | none => rfl
  | some o =>
    obtain ⟨x, hx, _⟩ := (S.rep _ _ q).isSome
    exact absurd (Heap.lt_size hx) (Nat.lt_irrefl _)

theorem get?_fresh (h : Heap) : h.get? h.objs.size = none := by
  cases q : h.get? h.objs.size with
  | none => rfl
  | some o => exact absurd (Heap.lt_size q) (Nat.lt_irrefl _)

theorem Evo.ext {h h' : Heap} (k : ∀ b o, h.get? b = some o → h'.get? b = some o) : Evo σ h σ h' :=
  ⟨fun b o e _ => k b o e, fun b o e => .inl ⟨o, e⟩, fun b o e => ⟨o, e⟩, fun a o i e => k _ _ e⟩
theorem St.ext {h' : Heap} {t : Nat} (S : St C σ s) (k : ∀ b o, s.heap.get? b = some o → h'.get? b = some o) : St C σ { s with heap := h', toks := t } :=
  ⟨fun b o e => k _ _ (S.base b o e), fun a o e => (S.rep a o e).at (fun x hx => k _ _ hx) fun _ _ _ e => k _ _ e, S.above, S.gens, S.os⟩

theorem push_size (h : Heap) (x : Obj) : (h.push x).objs.size = h.objs.size + 1 := by
  obtain ⟨o, l⟩ := h; simp [Heap.push]

theorem St.new {x : Obj} {o : O} {t : Nat} (S : St C σ s) (r : Rep C (s.heap.push x) s.heap.objs.size o) :
    St C (σ.upd s.heap.objs.size o) { s with heap := s.heap.push x, toks := t } ∧ Evo σ s.heap (σ.upd s.heap.objs.size o) (s.heap.push x) := by
  have k : ∀ b y, s.heap.get? b = some y → (s.heap.push x).get? b = some y := fun b y e => Heap.get?_push_of_some _ e
  have S' := S.ext (t := t) k
  refine ⟨⟨S'.base, fun b y e => ?_, fun b y e => ?_, S'.gens, S'.os⟩, fun b y e n => k b y e, fun b y e => ?_, fun b y e => ?_, fun a o i e => k _ _ e⟩
  · by_cases q : b = s.heap.objs.size
    · subst q; rw [Store.upd_self] at e; cases e; exact r
    · rw [Store.upd_ne _ _ q] at e; exact S'.rep b y e
  · by_cases q : b = s.heap.objs.size
    · subst q; exact S.size
    · rw [Store.upd_ne _ _ q] at e; exact S.above b y e
  · by_cases q : b = s.heap.objs.size
    · subst q; exact .inr (get?_fresh _)
    · rw [Store.upd_ne _ _ q] at e; exact .inl ⟨_, e⟩
  · by_cases q : b = s.heap.objs.size
    · subst q; exact ⟨_, Store.upd_self ..⟩
    · exact ⟨y, by rw [Store.upd_ne _ _ q]; exact e⟩

theorem St.push {x : Obj} {t : Nat} (S : St C σ s) : St C σ { s with heap := s.heap.push x, toks := t } :=
  S.ext (fun b y e => Heap.get?_push_of_some _ e)
theorem Evo.push {h : Heap} {x : Obj} : Evo σ h σ (h.push x) := .ext fun b y e => Heap.get?_push_of_some _ e

/- argument lists, displays -/
def AP (C : Cx) (σ : Store) (h : Heap) (Q : List V → Store → Prop) (vs : List Value) (s' : Shared) : Prop :=
  ∃ xs σ', Q xs σ' ∧ VRs s'.heap vs xs ∧ St C σ' s' ∧ Evo σ h σ' s'.heap
def Ags (C : Cx) (A : Around) (env : Env) (pos : Pos) (es : List Expr) (ρ : Rho) (σ : Store) (Q : List V → Store → Prop) (X : XP) : Prop :=
  ∀ s, St C σ s → Fm C σ s.heap env ρ → wpAny C.M A (spliced (backTo pos (starEach es env))) (AP C σ s.heap Q) X s
theorem Ags.nil {pos : Pos} {Q : List V → Store → Prop} (h : Q [] σ) : Ags C A env pos [] ρ σ Q X :=
  fun s S F => wpAny_items_nil ⟨[], σ, h, .nil, S, .refl ..⟩
theorem Ags.cons {pos : Pos} {e : Expr} {es : List Expr} {Q : List V → Store → Prop}
    (h : Ev C A env e ρ σ (fun x σ1 => Ags C A env pos es ρ σ1 (fun xs σ2 => Q (x :: xs) σ2) X) X)
    (he : starEach (e :: es) env = (false, eval e env) :: starEach es env := by kernel_rfl) : Ags C A env pos (e :: es) ρ σ Q X := by
  intro s S F
  refine wpAny_items_cons (wpAny_mono (h s S F) ?_ fun _ _ z => z) he
  rintro v s1 ⟨x, σ1, h1, r1, S1, e1⟩
  refine wpAny_mono (h1 s1 S1 (F.evo e1)) ?_ fun _ _ z => z
  rintro vs s2 ⟨xs, σ2, h2, r2, S2, e2⟩
  exact ⟨x :: xs, σ2, h2, .cons (r1.mono e2.tup) r2, S2, e1.trans e2⟩

theorem VRs.push {h : Heap} {x : Obj} {vs : List Value} {xs : List V} (r : VRs h vs xs) : VRs (h.push x) vs xs := r.mono fun _ _ _ e => Heap.get?_push_of_some _ e

theorem Ev.tuple {es : List Expr} {k : Nat} {pos : Pos} {Q : V → Store → Prop} (h : Ags C A env pos es ρ σ (fun xs σ1 => xs.length ≤ sizeLine ∧ Q (.tup xs) σ1) X) :
    Ev C A env (.Tuple es k pos) ρ σ Q X := by
  intro s S F
  refine wpAny_Tuple (wpAny_mono (h s S F) ?_ fun _ _ z => z)
  rintro vs s1 ⟨xs, σ1, ⟨hz, q⟩, r1, S1, e1⟩
  refine ⟨by rw [r1.length]; exact hz, .tup xs, σ1, q, .tup (n := 0) (Heap.get?_push_size _ rfl) (by simpa using r1.push), S1.push, e1.trans .push⟩

theorem rep_list_push {h : Heap} {vs : List Value} {xs : List V} (r : VRs h vs xs) : Rep C (h.push { cls := .type "list", data := .seq vs.toArray }) h.objs.size (.list xs) :=
  ⟨vs.toArray, ⟨0, Heap.get?_push_size _ rfl⟩, by simpa using r.push⟩

theorem Ev.list {es : List Expr} {pos : Pos} {Q : V → Store → Prop} (h : Ags C A env pos es ρ σ (fun xs σ1 => xs.length ≤ sizeLine ∧ ∀ a, σ1 a = none → Q (.ref a) (σ1.upd a (.list xs))) X) :
    Ev C A env (.List es pos) ρ σ Q X := by
  intro s S F
  refine wpAny_List (wpAny_mono (h s S F) ?_ fun _ _ z => z)
  rintro vs s1 ⟨xs, σ1, ⟨hz, q⟩, r1, S1, e1⟩
  obtain ⟨S2, e2⟩ := S1.new (t := s1.toks) (rep_list_push r1)
  exact ⟨by rw [r1.length]; exact hz, .ref _, _, q _ S1.fresh, .ref _, S2, e1.trans e2⟩

/- statements -/
inductive FV where
  | next | brk | cont | ret (v : V)
inductive FR (h : Heap) : Flow → FV → Prop where
  | next : FR h .next .next
  | brk : FR h .brk .brk
  | cont : FR h .cont .cont
  | ret {v : Value} {x : V} : VR h v x → FR h (.ret v) (.ret x)

def Own (env : Env) (b : Addr) : Prop := b = env.locals ∨ ∃ x, env.cells.lookup x = some b
structure EvoF (env : Env) (σ : Store) (h : Heap) (σ' : Store) (h' : Heap) : Prop where
  keep : ∀ b o, h.get? b = some o → σ b = none → ¬ Own env b → h'.get? b = some o
  dom : ∀ b o, σ' b = some o → (∃ o', σ b = some o') ∨ h.get? b = none
  mono : ∀ b o, σ b = some o → ∃ o', σ' b = some o'
  tup : TupKeep h h'
  there : ∀ b o, h.get? b = some o → Own env b → ∃ o', h'.get? b = some o'
theorem Evo.evoF {σ' : Store} {h h' : Heap} (x : Evo σ h σ' h') (hown : ∀ b, Own env b → σ b = none) : EvoF env σ h σ' h' :=
  ⟨fun b o e n _ => x.keep b o e n, x.dom, x.mono, x.tup, fun b o e w => ⟨o, x.keep b o e (hown b w)⟩⟩
theorem EvoF.refl (h : Heap) : EvoF env σ h σ h := ⟨fun _ _ e _ _ => e, fun _ _ e => .inl ⟨_, e⟩, fun _ _ e => ⟨_, e⟩, .refl _, fun _ o e _ => ⟨o, e⟩⟩
theorem EvoF.trans {σ1 σ2 σ3 : Store} {h1 h2 h3 : Heap} (x : EvoF env σ1 h1 σ2 h2) (y : EvoF env σ2 h2 σ3 h3) : EvoF env σ1 h1 σ3 h3 := by
  refine ⟨fun b o e n w => ?_, fun b o e => ?_, fun b o e => ?_, x.tup.trans y.tup, fun b o e w => ?_⟩
  · refine y.keep b o (x.keep b o e n w) ?_ w
    cases q : σ2 b with
    | none => rfl
    | some o2 =>
      rcases x.dom b o2 q with ⟨o', e'⟩ | e'
      · rw [n] at e'; cases e'
      · rw [e] at e'; cases e'
  · rcases y.dom b o e with ⟨o', e'⟩ | e'
    · exact x.dom b o' e'
    · cases q : h1.get? b with
      | none => exact .inr rfl
      | some o1 =>
        left
        cases q' : σ1 b with
        | some o' => exact ⟨o', rfl⟩
        | none =>
          exfalso
          by_cases w : Own env b
          · obtain ⟨o', z⟩ := x.there b o1 q w
            rw [z] at e'; cases e'
          · rw [x.keep b o1 q q' w] at e'; cases e'
  · obtain ⟨o', e'⟩ := x.mono b o e
    exact y.mono b o' e'
  · obtain ⟨o', z⟩ := x.there b o e w
    exact y.there b o' z w

theorem Fm.own {h : Heap} (F : Fm C σ h env ρ) : ∀ b, Own env b → σ b = none := by
  rintro b (rfl | ⟨x, e⟩)
  · exact F.locs
  · exact (F.ncell x b e).1

def SP (C : Cx) (env : Env) (σ : Store) (h : Heap) (Q : FV → Rho → Store → Prop) (f : Flow) (s' : Shared) : Prop :=
  ∃ g ρ' σ', Q g ρ' σ' ∧ FR s'.heap f g ∧ St C σ' s' ∧ Fm C σ' s'.heap env ρ' ∧ EvoF env σ h σ' s'.heap
theorem SP.after {σ1 : Store} {h h1 : Heap} {Q : FV → Rho → Store → Prop} {f : Flow} {s' : Shared} (x : SP C env σ1 h1 Q f s') (k : EvoF env σ h σ1 h1) : SP C env σ h Q f s' :=
  let ⟨a, b, c, d, e, f, g, i⟩ := x; ⟨a, b, c, d, e, f, g, k.trans i⟩
theorem SP.mono {h : Heap} {Q Q' : FV → Rho → Store → Prop} {f : Flow} {s' : Shared} (x : SP C env σ h Q f s') (k : ∀ g ρ σ, Q g ρ σ → Q' g ρ σ) : SP C env σ h Q' f s' :=
  let ⟨a, b, c, d, e⟩ := x; ⟨a, b, c, k _ _ _ d, e⟩

def Ex (C : Cx) (A : Around) (env : Env) (st : Stmt) (ρ : Rho) (σ : Store) (Q : FV → Rho → Store → Prop) (X : XP) : Prop :=
  ∀ s, St C σ s → Fm C σ s.heap env ρ → wpAny C.M A (exec st env) (SP C env σ s.heap Q) X s
def Exs (C : Cx) (A : Around) (env : Env) (st : List Stmt) (ρ : Rho) (σ : Store) (Q : FV → Rho → Store → Prop) (X : XP) : Prop :=
  ∀ s, St C σ s → Fm C σ s.heap env ρ → wpAny C.M A (execs st env) (SP C env σ s.heap Q) X s

theorem Exs.mono {ss : List Stmt} {Q Q' : FV → Rho → Store → Prop} (h : Exs C A env ss ρ σ Q X) (k : ∀ g ρ σ, Q g ρ σ → Q' g ρ σ) : Exs C A env ss ρ σ Q' X :=
  fun s S F => wpAny_mono (h s S F) (fun _ _ z => z.mono k) fun _ _ z => z
theorem Ex.mono {ss : Stmt} {Q Q' : FV → Rho → Store → Prop} (h : Ex C A env ss ρ σ Q X) (k : ∀ g ρ σ, Q g ρ σ → Q' g ρ σ) : Ex C A env ss ρ σ Q' X :=
  fun s S F => wpAny_mono (h s S F) (fun _ _ z => z.mono k) fun _ _ z => z

/-- what goes on behind a statement -/
def Then (C : Cx) (A : Around) (env : Env) (ss : List Stmt) (Q : FV → Rho → Store → Prop) (X : XP) (g : FV) (ρ : Rho) (σ : Store) : Prop :=
  match g with
  | .next => Exs C A env ss ρ σ Q X
  | g => Q g ρ σ
theorem Exs.nil {Q : FV → Rho → Store → Prop} (h : Q .next ρ σ) : Exs C A env [] ρ σ Q X :=
  fun s S F => wpAny_execs_nil ⟨.next, ρ, σ, h, .next, S, F, .refl _⟩
theorem Exs.cons {st : Stmt} {ss : List Stmt} {Q : FV → Rho → Store → Prop} (h : Ex C A env st ρ σ (Then C A env ss Q X) X) : Exs C A env (st :: ss) ρ σ Q X := by
  intro s S F
  refine wpAny_execs_cons (wpAny_mono (h s S F) ?_ fun _ _ z => z)
  rintro f s1 ⟨g, ρ1, σ1, h1, r1, S1, F1, e1⟩
  cases r1 with
  | next => exact wpAny_mono (h1 s1 S1 F1) (fun _ _ z => z.after e1) fun _ _ z => z
  | brk => exact ⟨_, _, _, h1, .brk, S1, F1, e1⟩
  | cont => exact ⟨_, _, _, h1, .cont, S1, F1, e1⟩
  | ret r => exact ⟨_, _, _, h1, .ret r, S1, F1, e1⟩

theorem Ex.pass {pos : Pos} {Q : FV → Rho → Store → Prop} (h : Q .next ρ σ) : Ex C A env (.Pass pos) ρ σ Q X :=
  fun s S F => wpAny_Pass ⟨.next, ρ, σ, h, .next, S, F, .refl _⟩
theorem Ex.cont {pos : Pos} {Q : FV → Rho → Store → Prop} (h : Q .cont ρ σ) : Ex C A env (.Continue pos) ρ σ Q X :=
  fun s S F => wpAny_Continue ⟨.cont, ρ, σ, h, .cont, S, F, .refl _⟩
theorem Ex.ret {e : Expr} {pos : Pos} {Q : FV → Rho → Store → Prop} (h : Ev C A env e ρ σ (fun x σ1 => Q (.ret x) ρ σ1) X) : Ex C A env (.Return (some e) pos) ρ σ Q X := by
  intro s S F
  refine wpAny_Return_some (wpAny_mono (h s S F) ?_ fun _ _ z => z)
  rintro v s1 ⟨x, σ1, h1, r1, S1, e1⟩
  exact ⟨_, _, _, h1, .ret r1, S1, F.evo e1, e1.evoF F.own⟩
theorem Ex.ret0 {pos : Pos} {Q : FV → Rho → Store → Prop} (h : Q (.ret .none) ρ σ) : Ex C A env (.Return none pos) ρ σ Q X :=
  fun s S F => wpAny_Return_none ⟨_, ρ, σ, h, .ret .none, S, F, .refl _⟩
theorem Ex.ite {t : Expr} {b1 b2 : List Stmt} {pos : Pos} {Q : FV → Rho → Store → Prop} (h : Tst C A env t ρ σ (fun b σ1 => if b then Exs C A env b1 ρ σ1 Q X else Exs C A env b2 ρ σ1 Q X) X) :
    Ex C A env (.If t b1 b2 pos) ρ σ Q X := by
  intro s S F
  refine wpAny_If (wpAny_mono (h s S F) ?_ fun _ _ z => z)
  rintro b s1 ⟨σ1, h1, S1, e1⟩
  cases b
  · exact wpAny_mono (h1 s1 S1 (F.evo e1)) (fun _ _ z => z.after (e1.evoF F.own)) fun _ _ z => z
  · exact wpAny_mono (h1 s1 S1 (F.evo e1)) (fun _ _ z => z.after (e1.evoF F.own)) fun _ _ z => z

/-- a list that stood at the call -/
def BaseL (C : Cx) (l : Addr) (xs : List V) : Prop := ∃ items, C.h₀.IsList l items ∧ VRs C.h₀ items.toList xs
/-- a list's items: of the store, or of the base -/
def LstAt (C : Cx) (σ : Store) (l : Addr) (xs : List V) : Prop := σ l = some (.list xs) ∨ BaseL C l xs


theorem LstAt.raw {l : Addr} {xs : List V} (h : LstAt C σ l xs) (S : St C σ s) : ∃ items, s.heap.IsList l items ∧ VRs s.heap items.toList xs := by
  rcases h with h | ⟨items, ⟨o, e, r⟩, h2⟩
  · obtain ⟨items, pl, r⟩ := S.rep _ _ h
    exact ⟨items, pl.isList, r⟩
  · exact ⟨items, ⟨o, S.base _ _ e, r⟩, h2.mono fun _ _ _ e => S.base _ _ e⟩

end

end Mine

set_option autoImplicit false
set_option linter.unusedVariables false
namespace Mine
open PySem PySem.W

section
variable {C : Cx} {A : Around} {env : Env} {ρ : Rho} {σ : Store} {X : XP} {s : Shared}

/-- a statement's value thrown away -/
theorem Ex.expr {e : Expr} {pos : Pos} {Q : FV → Rho → Store → Prop} (h : Ev C A env e ρ σ (fun x σ1 => Q .next ρ σ1) X)
    (hi : interactive env = false := by kernel_rfl) (hs : swapsWith e none pos.line env = pure false := by kernel_rfl) : Ex C A env (.Expr e pos) ρ σ Q X := by
  intro s S F
  refine wpAny_Expr_any (wpAny_mono (h s S F) ?_ fun _ _ z => z) hi hs
  rintro v s1 ⟨x, σ1, h1, r1, S1, e1⟩
  exact ⟨_, _, _, h1, .next, S1, F.evo e1, e1.evoF F.own⟩

/- assigning -/
def Asg (C : Cx) (A : Around) (env : Env) (t : Expr) (x : V) (ρ : Rho) (σ : Store) (Q : Rho → Store → Prop) (X : XP) : Prop :=
  ∀ s v, St C σ s → Fm C σ s.heap env ρ → VR s.heap v x → wpAny C.M A (assign t env v) (fun _ s' => ∃ ρ' σ', Q ρ' σ' ∧ St C σ' s' ∧ Fm C σ' s'.heap env ρ' ∧ EvoF env σ s.heap σ' s'.heap) X s

theorem Fm.storeLocal {h h' : Heap} {x : Str} {v : Value} {y : V} {m : Str → Option Value} {t : Nat} (S : St C σ s) (F : Fm C σ s.heap env ρ) (hk : env.kindOf x = some .local)
    (hm : s.heap.Ns env.locals m) (f : ∀ x v, env.kindOf x = some .local → ρ.get x = some v → ∃ u, m x = some u ∧ VR s.heap u v)
    (hn : h'.Ns env.locals (fun z => if z = x then some v else m z)) (hs : Heap.SameBut env.locals s.heap h') (r : VR s.heap v y)
    (hc : env.cells.lookup x = none) :
    St C σ { s with heap := h', toks := t } ∧ Fm C σ h' env (ρ.put x y) ∧ EvoF env σ s.heap σ h' := by
  have nt : ∀ o, s.heap.get? env.locals = some o → ¬ Imm o := fun o e => by obtain ⟨o', es, ep, ho, hd, _⟩ := hm; rw [ho] at e; cases e; exact Imm.notDict hd
  have tk := tupKeep_sameBut hs nt
  have ne : ∀ b o, σ b = some o → b ≠ env.locals := fun b o e q => by rw [q, F.locs] at e; cases e
  refine ⟨⟨fun b o e => ?_, fun b o e => ?_, S.above, S.gens, S.os⟩, ⟨F.fn, ⟨_, hn, fun z u hz hu => ?_⟩, F.locs, F.abv, fun z c hz => ?_, F.ncell, F.apart⟩, fun b o e n w => ?_, fun b o e => .inl ⟨o, e⟩, fun b o e => ⟨o, e⟩, tk, fun b o e w => ?_⟩
  · refine (hs.2 b fun q => ?_).trans (S.base b o e)
    subst q; exact absurd (C.low _ _ e) (Nat.not_lt.mpr F.abv)
  · exact (S.rep b o e).at (fun y hy => (hs.2 b (ne b o e)).trans hy) tk
  · rw [Rho.get_put] at hu
    by_cases q : z = x
    · subst q; rw [if_pos rfl] at hu; cases hu; exact ⟨v, by simp, r.mono tk⟩
    · rw [if_neg q] at hu
      obtain ⟨a, b, d⟩ := f z u hz hu
      exact ⟨a, by simp [q, b], d.mono tk⟩
  · obtain ⟨ov, a, b⟩ := F.cell z c hz
    obtain ⟨n1, n2, n3⟩ := F.ncell z c hz
    refine ⟨ov, a.sameBut hs n2, fun u hu => ?_⟩
    rw [Rho.get_put, if_neg (fun q => by subst q; rw [hc] at hz; cases hz)] at hu
    obtain ⟨p, q1, q2⟩ := b u hu
    exact ⟨p, q1, q2.mono tk⟩
  · exact (hs.2 b fun q => w (.inl q)).trans e
  · by_cases q : b = env.locals
    · subst q
      obtain ⟨o', _, _, ho, _⟩ := hn
      exact ⟨o', ho⟩
    · exact ⟨o, (hs.2 b q).trans e⟩

theorem Asg.loc {x : Str} {pos : Pos} {y : V} {ρ' : Rho} {Q : Rho → Store → Prop} (hk : env.kindOf x = some .local) (hc : env.cells.lookup x = none) (hp : ρ.put x y = ρ') (h : Q ρ' σ) :
    Asg C A env (.Name x pos) y ρ σ Q X := by
  intro s v S F r
  obtain ⟨m, hm, f⟩ := F.loc
  refine wpAny_assign_Name (wpAny_storeName_local hk hm (fun h' hn hs => ?_) (by rw [F.fn]; rfl))
  obtain ⟨a, b, c⟩ := Fm.storeLocal (h := s.heap) (t := s.toks + 1) S F hk hm f hn hs r hc
  exact ⟨_, _, h, a, hp ▸ b, c⟩

theorem Asg.cel {x : Str} {pos : Pos} {y : V} {c : Addr} {ρ' : Rho} {Q : Rho → Store → Prop} (hk : env.kindOf x = some .cell) (hc : env.cells.lookup x = some c) (hp : ρ.put x y = ρ') (h : Q ρ' σ) :
    Asg C A env (.Name x pos) y ρ σ Q X := by
  intro s v S F r
  obtain ⟨ov, a, b⟩ := F.cell x c hc
  obtain ⟨n1, n2, n3⟩ := F.ncell x c hc
  refine wpAny_assign_Name (wpAny_storeName_cell F.fn hk hc a (fun h' hcl hs => ?_))
  have nt : ∀ o, s.heap.get? c = some o → ¬ Imm o := fun o e => by obtain ⟨o', ho, hd⟩ := a; rw [ho] at e; cases e; exact Imm.notCell hd
  have tk := tupKeep_sameBut hs nt
  have ne : ∀ b o, σ b = some o → b ≠ c := fun b o e q => by rw [q, n1] at e; cases e
  obtain ⟨m, hm, f⟩ := F.loc
  refine ⟨ρ', σ, h, ⟨fun b o e => ?_, fun b o e => ?_, S.above, S.gens, S.os⟩, hp ▸ ⟨F.fn, ⟨m, hm.sameBut hs n2.symm, fun z u hz hu => ?_⟩, F.locs, F.abv, fun z d hz => ?_, F.ncell, F.apart⟩, fun b o e n w => ?_, fun b o e => .inl ⟨o, e⟩, fun b o e => ⟨o, e⟩, tk, fun b o e w => ?_⟩
  · refine (hs.2 b fun q => ?_).trans (S.base b o e)
    subst q; exact absurd (C.low _ _ e) (Nat.not_lt.mpr n3)
  · exact (S.rep b o e).at (fun y hy => (hs.2 b (ne b o e)).trans hy) tk
  · rw [Rho.get_put, if_neg (fun q => by subst q; rw [hk] at hz; cases hz)] at hu
    obtain ⟨a, b, d⟩ := f z u hz hu
    exact ⟨a, b, d.mono tk⟩
  · by_cases q : z = x
    · subst q
      rw [hc] at hz; cases hz
      exact ⟨some v, hcl, fun u hu => by rw [Rho.get_put, if_pos rfl] at hu; cases hu; exact ⟨v, rfl, r.mono tk⟩⟩
    · have dc : d ≠ c := fun e => q (F.apart z x d hz (e ▸ hc))
      obtain ⟨ov', a', b'⟩ := F.cell z d hz
      refine ⟨ov', a'.sameBut hs dc, fun u hu => ?_⟩
      rw [Rho.get_put, if_neg q] at hu
      obtain ⟨p, q1, q2⟩ := b' u hu
      exact ⟨p, q1, q2.mono tk⟩
  · exact (hs.2 b fun q => w (.inr ⟨x, q ▸ hc⟩)).trans e
  · by_cases q : b = c
    · subst q
      obtain ⟨o', ho, _⟩ := hcl
      exact ⟨o', ho⟩
    · exact ⟨o, (hs.2 b q).trans e⟩

/-- one target -/
theorem Ex.assign {t value : Expr} {pos : Pos} {Q : FV → Rho → Store → Prop} (h : Ev C A env value ρ σ (fun x σ1 => Asg C A env t x ρ σ1 (fun ρ' σ' => Q .next ρ' σ') X) X)
    (hs : swapsWithSole [t] value pos.line env = pure false := by kernel_rfl) (hw : swappedStores [t] value env = pure none := by kernel_rfl)
    (ht : (assignEach [t] env).map (·.2) = [assign t env] := by kernel_rfl) : Ex C A env (.Assign [t] value pos) ρ σ Q X := by
  intro s S F
  refine wpAny_Assign_stores (wpAny_mono (h s S F) ?_ fun _ _ z => z) hs hw
  rintro v s1 ⟨x, σ1, h1, r1, S1, e1⟩
  rw [ht]
  refine wpAny_mono (h1 s1 v S1 (F.evo e1) r1) ?_ fun _ _ z => z
  rintro _ s2 ⟨ρ', σ', q, S2, F2, e2⟩
  exact ⟨_, _, _, q, .next, S2, F2, (e1.evoF F.own).trans e2⟩

/- tuple targets -/
def AsgO (C : Cx) (A : Around) (env : Env) (ts : List Expr) (xs : List V) (ρ : Rho) (σ : Store) (Q : Rho → Store → Prop) (X : XP) : Prop :=
  ∀ s vs, St C σ s → Fm C σ s.heap env ρ → VRs s.heap vs xs → wpAny C.M A (assignInOrder ((assignEach ts env).map (·.2)) vs) (fun _ s' => ∃ ρ' σ', Q ρ' σ' ∧ St C σ' s' ∧ Fm C σ' s'.heap env ρ' ∧ EvoF env σ s.heap σ' s'.heap) X s
theorem AsgO.nil {Q : Rho → Store → Prop} (h : Q ρ σ) : AsgO C A env [] [] ρ σ Q X :=
  fun s vs S F r => by cases r; exact wpAny_pure ⟨ρ, σ, h, S, F, .refl _⟩
theorem AsgO.cons {t : Expr} {ts : List Expr} {x : V} {xs : List V} {Q : Rho → Store → Prop} (h : Asg C A env t x ρ σ (fun ρ1 σ1 => AsgO C A env ts xs ρ1 σ1 Q X) X)
    (ht : (assignEach (t :: ts) env).map (·.2) = assign t env :: (assignEach ts env).map (·.2) := by kernel_rfl) : AsgO C A env (t :: ts) (x :: xs) ρ σ Q X := by
  intro s vs S F r
  cases r with
  | cons r1 r2 =>
    rw [ht]
    refine wpAny_assignInOrder_more (wpAny_mono (h s _ S F r1) ?_ fun _ _ z => z)
    rintro _ s1 ⟨ρ1, σ1, q, S1, F1, e1⟩
    refine wpAny_mono (q s1 _ S1 F1 (r2.mono e1.tup)) ?_ fun _ _ z => z
    rintro _ s2 ⟨ρ2, σ2, q2, S2, F2, e2⟩
    exact ⟨ρ2, σ2, q2, S2, F2, e1.trans e2⟩
theorem Asg.tup {ts : List Expr} {xs : List V} {k : Nat} {pos : Pos} {Q : Rho → Store → Prop} (hh : A.handled = none) (hl : ts.length = xs.length) (h : AsgO C A env ts xs ρ σ Q X)
    (hn : (assignEach ts env).length = ts.length := by kernel_rfl) (hstar : (assignEach ts env).findIdx? (·.1) = none := by kernel_rfl) : Asg C A env (.Tuple ts k pos) (.tup xs) ρ σ Q X := by
  intro s v S F r
  cases r with
  | @tup a items n _ ha hr =>
    refine wpAny_assign_Tuple hh (t := a) (items := items) ⟨_, ha, rfl, n, rfl⟩ ?_ hstar (fun h' he => ?_)
    · rw [hn, hl, ← hr.length]; simp
    · have k : ∀ b o, s.heap.get? b = some o → h'.get? b = some o := fun b o e => he b o (Nat.ne_of_lt (Heap.lt_size e)) e
      have e0 : Evo σ s.heap σ h' := .ext k
      refine wpAny_mono (h { s with heap := h' } items.toList (S.ext (t := s.toks) k) (F.evo e0) (hr.mono e0.tup)) ?_ fun _ _ z => z
      rintro _ s2 ⟨ρ2, σ2, q2, S2, F2, e2⟩
      exact ⟨ρ2, σ2, q2, S2, F2, (e0.evoF F.own).trans e2⟩
end

end Mine

set_option autoImplicit false
set_option linter.unusedVariables false
namespace Mine
open PySem PySem.W

def FV.val : FV → V
  | .ret v => v
  | _ => .none
def fval : Flow → Value
  | .ret v => v
  | _ => .none
theorem FR.val {h : Heap} {f : Flow} {g : FV} (r : FR h f g) : VR h (fval f) g.val := by
  cases r <;> first | exact .none | assumption

def CallWP (C : Cx) (A : Around) (f : Value) (args : List V) (σ : Store) (Q : V → Store → Prop) (X : XP) : Prop :=
  ∀ s vs, St C σ s → VRs s.heap vs args → wpAny C.M A (call f vs) (EP C σ s.heap Q) X s

theorem CallWP.mono {C : Cx} {A : Around} {f : Value} {args : List V} {σ : Store} {Q Q' : V → Store → Prop} {X : XP} (h : CallWP C A f args σ Q X) (k : ∀ x σ', Q x σ' → Q' x σ') : CallWP C A f args σ Q' X :=
  fun s vs S r => wpAny_mono (h s vs S r) (fun _ _ z => z.mono k) fun _ _ z => z

section
variable {kindOf : Str → Option NameKind} {h : Heap}
theorem bindL_notin {x : Str} : ∀ (names : List Str) (vals : List Value) (m : Str → Option Value), x ∉ names → bindL kindOf (names.zip vals) m x = m x
  | [], _, _, _ => rfl
  | _ :: _, [], _, _ => rfl
  | n :: names, v :: vals, m, hx => by
    show bindL kindOf (names.zip vals) _ x = m x
    rw [bindL_notin names vals _ fun q => hx (.tail _ q)]
    split
    · exact if_neg fun (q : x = n) => hx (q ▸ .head _)
    · rfl
theorem bindC_notin {x : Str} : ∀ (names : List Str) (vals : List Value) (m : Str → Option Value), x ∉ names → bindC kindOf (names.zip vals) m x = m x
  | [], _, _, _ => rfl
  | _ :: _, [], _, _ => rfl
  | n :: names, v :: vals, m, hx => by
    show bindC kindOf (names.zip vals) _ x = m x
    rw [bindC_notin names vals _ fun q => hx (.tail _ q)]
    split
    · rfl
    · exact if_neg fun (q : x = n) => hx (q ▸ .head _)
theorem bindL_get {x : Str} {y : V} : ∀ (names : List Str) (vals : List Value) (args : List V) (m : Str → Option Value), VRs h vals args → names.Nodup → kindOf x = some .local →
    Rho.get (names.zip args) x = some y → ∃ u, bindL kindOf (names.zip vals) m x = some u ∧ VR h u y
  | [], _, _, _, _, _, _, e => by cases e
  | _ :: _, _, _, _, .nil, _, _, e => by cases e
  | n :: names, v :: vals, a :: args, m, .cons r rs, nd, hk, e => by
    have nd' := List.nodup_cons.mp nd
    show ∃ u, bindL kindOf (names.zip vals) _ x = some u ∧ _
    have e' : (if x = n then some a else Rho.get (names.zip args) x) = some y := e
    by_cases q : x = n
    · subst q
      rw [if_pos rfl] at e'; cases e'
      rw [bindL_notin names vals _ nd'.1, if_pos hk]
      exact ⟨v, if_pos rfl, r⟩
    · rw [if_neg q] at e'
      exact bindL_get names vals args _ rs nd'.2 hk e'
theorem bindC_get {x : Str} {y : V} : ∀ (names : List Str) (vals : List Value) (args : List V) (m : Str → Option Value), VRs h vals args → names.Nodup → kindOf x ≠ some .local →
    Rho.get (names.zip args) x = some y → ∃ u, bindC kindOf (names.zip vals) m x = some u ∧ VR h u y
  | [], _, _, _, _, _, _, e => by cases e
  | _ :: _, _, _, _, .nil, _, _, e => by cases e
  | n :: names, v :: vals, a :: args, m, .cons r rs, nd, hk, e => by
    have nd' := List.nodup_cons.mp nd
    show ∃ u, bindC kindOf (names.zip vals) _ x = some u ∧ _
    have e' : (if x = n then some a else Rho.get (names.zip args) x) = some y := e
    by_cases q : x = n
    · subst q
      rw [if_pos rfl] at e'; cases e'
      rw [bindC_notin names vals _ nd'.1, if_neg hk]
      exact ⟨v, if_pos rfl, r⟩
    · rw [if_neg q] at e'
      exact bindC_get names vals args _ rs nd'.2 hk e'
end

theorem cellsFrom_mem : ∀ (names : List (Str × NameKind)) (n : Nat) (acc : List (Str × Addr)) (x : Str) (c : Addr), (x, c) ∈ cellsFrom n names acc → (x, c) ∈ acc ∨ (x, NameKind.cell) ∈ names
  | [], _, _, _, _, h => .inl h
  | (nm, k) :: r, n, acc, x, c, h => by
    unfold cellsFrom at h
    split at h
    · rename_i hk
      rcases cellsFrom_mem r _ _ x c h with q | q
      · rcases List.mem_cons.mp q with q | q
        · cases q
          right
          rw [← beq_iff_eq.mp hk]
          exact .head _
        · exact .inl q
      · exact .inr (.tail _ q)
    · rcases cellsFrom_mem r _ _ x c h with q | q
      · exact .inl q
      · exact .inr (.tail _ q)

/-- cells of a scope are cells by its table -/
def scopeOk (scope : Scope) : Bool := scope.names.all fun p => p.2 != .cell || scope.names.lookup p.1 == some .cell

section
variable {C : Cx} {A : Around} {env : Env} {ρ : Rho} {σ : Store} {X : XP} {s : Shared}

theorem St.callee {fd : FuncData} {f : Addr} {names : List Str} {vals : List Value} {args : List V} {s₁ : Shared} (S : St C σ s) (r : VRs s.heap vals args) (nd : names.Nodup) (hk : fd.scope.kind = .function) (hsc : scopeOk fd.scope = true)
    (x : InCallC s (callEnvC fd s.heap.objs.size f).locals (bindL (callEnvC fd s.heap.objs.size f).kindOf (names.zip vals) fun _ => none) (callEnvC fd s.heap.objs.size f).cells
        (bindC (callEnvC fd s.heap.objs.size f).kindOf (names.zip vals) fun _ => none) s₁) :
    St C σ s₁ ∧ Fm C σ s₁.heap (callEnvC fd s.heap.objs.size f) (names.zip args) ∧ (∀ b o, s.heap.get? b = some o → s₁.heap.get? b = some o) := by
  obtain ⟨⟨⟨h, tk, rfl⟩, ns, keep, fr⟩, cell, apart, above⟩ := x
  have L : (callEnvC fd s.heap.objs.size f).locals = s.heap.objs.size := rfl
  have e0 : Evo σ s.heap σ h := .ext keep
  have fresh : ∀ b, s.heap.objs.size ≤ b → σ b = none := fun b hb => by
    cases q : σ b with
    | none => rfl
    | some o =>
      obtain ⟨y, hy, _⟩ := (S.rep _ _ q).isSome
      exact absurd (Heap.lt_size hy) (Nat.not_lt.mpr hb)
  have up : ∀ n c, (callEnvC fd s.heap.objs.size f).cells.lookup n = some c → s.heap.objs.size < c := fun n c hc => L ▸ above n c (mem_of_lookup hc)
  refine ⟨S.ext keep, ⟨hk, ⟨_, ns, fun y v hy hv => bindL_get names vals args _ (r.mono e0.tup) nd hy hv⟩, fresh _ (L ▸ Nat.le_refl _), L ▸ S.size, fun y c hc => ⟨_, cell y c hc, fun v hv => ?_⟩, fun y c hc => ?_, fun y z c hy hz => ?_⟩, keep⟩
  · refine bindC_get names vals args _ (r.mono e0.tup) nd ?_ hv
    rcases cellsFrom_mem _ _ _ _ _ (mem_of_lookup hc) with q | q
    · cases q
    · have := List.all_eq_true.mp hsc _ q
      intro z
      have z' : fd.scope.names.lookup y = some .local := z
      simp only [bne_self_eq_false, Bool.false_or, beq_iff_eq] at this
      rw [z'] at this; cases this
  · have := up y c hc
    exact ⟨fresh c (Nat.le_of_lt this), fun q => by rw [q, L] at this; exact Nat.lt_irrefl _ this, Nat.le_trans S.size (Nat.le_of_lt this)⟩
  · exact name_of_addr apart (mem_of_lookup hy) (mem_of_lookup hz)

theorem EP.ret {s₁ : Shared} {fd : FuncData} {f : Addr} {Q : V → Store → Prop} {fl : Flow} {s' : Shared} (S : St C σ s) (keep : ∀ b o, s.heap.get? b = some o → s₁.heap.get? b = some o)
    (hup : ∀ n c, (callEnvC fd s.heap.objs.size f).cells.lookup n = some c → s.heap.objs.size < c)
    (z : SP C (callEnvC fd s.heap.objs.size f) σ s₁.heap (fun g _ σ' => Q g.val σ') fl s') : EP C σ s.heap Q (fval fl) s' := by
  obtain ⟨g, ρ', σ', q, r, S', F', e⟩ := z
  refine ⟨g.val, σ', q, r.val, S', fun b o hb n => ?_, fun b o hb => ?_, e.mono, fun a o i h => e.tup _ _ i (keep _ _ h)⟩
  · refine e.keep b o (keep b o hb) n ?_
    have hlt := Heap.lt_size hb
    rintro (q | ⟨x, hx⟩)
    · rw [q] at hlt; exact Nat.lt_irrefl _ hlt
    · exact absurd (hup x b hx) (Nat.not_lt.mpr (Nat.le_of_lt hlt))
  · rcases e.dom b o hb with h | h
    · exact .inl h
    · right
      cases q : s.heap.get? b with
      | none => rfl
      | some y => rw [keep b y q] at h; cases h

/-- a call of a def that raises nothing -/
theorem CallWP.fn {f : Addr} {o : Obj} {fd : FuncData} {body : List Stmt} {names : List Str} {args : List V} {Q : V → Store → Prop}
    (ho : C.h₀.get? f = some o) (hd : o.data = .func fd) (hlim : C.h₀.NoLimit) (hcd : C.h₀.CodeRec fd.code fd.qualname) (hbody : fd.body = .stmts body)
    (hbind : ∀ vals : List Value, vals.length = args.length → bindArgs fd ⟨vals, []⟩ = pure (names.zip vals)) (hclo : fd.closure = []) (nd : names.Nodup)
    (hkind : ∀ x ∈ names, fd.scope.names.lookup x = some .local ∨ (fd.scope.names.lookup x = some .cell ∧ ∀ L, ((cellsFrom L fd.scope.names []).lookup x).isSome = true))
    (hroom : A.depth < recursionLimit) (hsc : scopeOk fd.scope = true) (hco : fd.scope.isCoroutine = false) (hgen : fd.scope.isGenerator = false) (hk : fd.scope.kind = .function)
    (h : ∀ L, Exs C (A.deeper (callEnvC fd L f)) (callEnvC fd L f) body (names.zip args) σ (fun g _ σ' => Q g.val σ') (fun _ _ => False)) : CallWP C A (.ref f) args σ Q X := by
  intro s vs S r
  have hk' : ∀ b o, C.h₀.get? b = some o → s.heap.get? b = some o := S.base
  refine wpAny_call (codeAny_call_cells (fd := fd) hroom (hk' _ _ ho) hd (hlim.keeps hk') (hcd.keeps hk') hbody (hbind vs r.length) hclo ?_ (fun s₁ x => ?_) hco hgen hk)
  · intro y hy
    rcases hkind y.1 (List.of_mem_zip hy).1 with q | ⟨q, q'⟩
    · exact .inl q
    · exact .inr ⟨q, q' _⟩
  · obtain ⟨S₁, F₁, keep⟩ := S.callee r nd hk hsc x
    refine wpAny_mono (h s.heap.objs.size s₁ S₁ F₁) (fun fl s' z => ?_) (fun _ _ z => z.elim)
    have y := EP.ret S keep (fun n c hc => x.above n c (mem_of_lookup hc)) z
    cases fl <;> exact y
end

end Mine

set_option autoImplicit false
set_option linter.unusedVariables false
namespace Mine
open PySem PySem.W

section
variable {C : Cx} {A : Around} {env : Env} {ρ : Rho} {σ : Store} {X : XP} {s : Shared}

theorem St.K (S : St C σ s) : C.K.In s.heap := fun a o e => S.base _ _ (C.KX a o e)
theorem VR.base {v : Value} {x : V} (r : VR C.h₀ v x) (S : St C σ s) : VR s.heap v x := r.mono fun _ _ _ e => S.base _ _ e

theorem Ev.glob {x : Str} {pos : Pos} {v : Value} {y : V} {Q : V → Store → Prop} (hk : env.kindOf x = some .globalImplicit) (e : nsIn C.K mainGlobals x = some (some v)) (r : VR C.h₀ v y) (h : Q y σ)
    (hg : env.globals = mainGlobals) (hd : (x == ("__debug__" : Str)) = false) : Ev C A env (.Name x pos) ρ σ Q X := by
  intro s S F
  refine Calls.Name_function_global F.fn hk (Calls.loadGlobal_global (mg := C.mg) ?_ (mg_of C.KX C.hg e) (EP.pure S h (r.base S))) hd
  rw [hg]; exact C.hg.keeps S.base
theorem Ev.gblt {x : Str} {pos : Pos} {v : Value} {y : V} {Q : V → Store → Prop} (hk : env.kindOf x = some .globalImplicit) (e : nsIn C.K mainGlobals x = some none) (hv : bootBuiltins x = some v) (r : VR C.h₀ v y) (h : Q y σ)
    (hn : x ≠ "__name__") (hg : env.globals = mainGlobals) (hb : env.builtins = builtinsNs) (hd : (x == ("__debug__" : Str)) = false) : Ev C A env (.Name x pos) ρ σ Q X := by
  intro s S F
  refine Calls.Name_function_global F.fn hk (Calls.loadGlobal_builtin (mg := C.mg) (mb := C.mb) ?_ (mg_none_of C.KX C.hg e) ?_ ((C.blt x hn).trans hv) (EP.pure S h (r.base S))) hd
  · rw [hg]; exact C.hg.keeps S.base
  · rw [hb]; exact C.hb.keeps S.base

/- calls -/
/-- f may be called: its keeper is plain wherever the base stands -/
def Kp (C : Cx) (f : Value) : Prop := ∀ h : Heap, (∀ b o, C.h₀.get? b = some o → h.get? b = some o) → ∃ k, (k = Keeper.frame ∨ k = Keeper.machine ∨ k = Keeper.boundFrame) ∧ Looks C.M h (keeperOf f) k
theorem Kp.ref {f : Value} (e : keepIn C.K f = true) : Kp C f := fun h k => keeps_K e h fun a o q => k _ _ (C.KX a o q)
theorem Kp.blt {i : String} : Kp C (.builtin i) := fun h k => ⟨.machine, .inr (.inl rfl), .now⟩
theorem Kp.typ {i : String} : Kp C (.type i) := fun h k => ⟨.machine, .inr (.inl rfl), .now⟩

theorem VRs.app {h : Heap} {a b : List Value} {x y : List V} (r : VRs h a x) (r' : VRs h b y) : VRs h (a ++ b) (x ++ y) := r.append r'

theorem evalArgs_sp {M : Model} {E : XP} {f : Value} {Q : Args → Shared → Prop} : ∀ {trees : List (Bool × Sem Value)}, trees.any (·.1) = false → wpAny M A (spliced trees) (fun vs s' => Q ⟨vs, []⟩ s') E s → wpAny M A (evalArgs f true trees []) Q E s
  | [], _, h => by
    unfold evalArgs
    show wpAny M A (spliced [] >>= _) Q E s
    refine wpAny_bind (wpAny_mono h (fun vs s' h' => ?_) fun _ _ x => x)
    refine wpAny_holding ?_
    exact wpAny_bind (wpAny_pure (wpAny_bind (wpAny_pure (wpAny_pure h'))))
  | (false, x) :: rest, _, h => Calls.evalArgs_plain h
  | (true, x) :: rest, e, _ => by simp at e

theorem callWith_mine {pos : Pos} {f : Value} {first : List Value} {fx : List V} {args : List Expr} {Q : V → Store → Prop} (kp : Kp C f) (S : St C σ s) (F : Fm C σ s.heap env ρ) (rf : VRs s.heap first fx)
    (h : Ags C A env pos args ρ σ (fun xs σ1 => CallWP C A f (fx ++ xs) σ1 Q X) X)
    (he : (backTo pos (starEach args env)).any (·.1) = false) :
    wpAny C.M A (callWith pos f first (backTo pos (starEach args env)) []) (EP C σ s.heap Q) X s := by
  refine callWith_of (P := fun h => ∀ b o, C.h₀.get? b = some o → h.get? b = some o) (by rw [he]; rfl) kp ?_
  refine evalArgs_sp he (wpAny_mono (h s S F) ?_ fun _ _ z => z)
  rintro vs s1 ⟨xs, σ1, q, r1, S1, e1⟩
  exact ⟨S1.base, wpAny_mono (q s1 _ S1 ((rf.mono e1.tup).append r1)) (fun _ _ z => z.after e1) fun _ _ z => z⟩

/-- f(args), f a name -/
theorem Ev.call {func : Expr} {args : List Expr} {pos : Pos} {Q : V → Store → Prop}
    (h : Ev C A env func ρ σ (fun fx σ1 => ∃ f, (∀ v hp, VR hp v fx → v = f) ∧ Kp C f ∧ Ags C A env pos args ρ σ1 (fun xs σ2 => CallWP C A f xs σ2 Q X) X) X)
    (hev : eval (.Call func args [] pos) env = (do callWith pos (← eval func env) [] (backTo pos (starEach args env)) (backToKw pos (keywordEach [] env))) := by kernel_rfl)
    (he : (backTo pos (starEach args env)).any (·.1) = false := by kernel_rfl) : Ev C A env (.Call func args [] pos) ρ σ Q X := by
  intro s S F
  rw [hev]
  refine wpAny_bind (wpAny_mono (h s S F) ?_ fun _ _ z => z)
  rintro v s1 ⟨x, σ1, ⟨f, hf, kp, q⟩, r1, S1, e1⟩
  obtain rfl := hf v _ r1
  exact wpAny_mono (callWith_mine (first := []) (fx := []) kp S1 (F.evo e1) .nil q he) (fun _ _ z => z.after e1) fun _ _ z => z

/- attributes of own instances -/
theorem dict_obj {kvs : List (Str × Value)} {h : Heap} {dx : Addr} (D : h.DictOf (strKind C.prog C.w) dx kvs) : ∃ es n, h.get? dx = some (dictOf es n) ∧ Pairs (strKind C.prog C.w) es kvs ∧ KeysOf (strKind C.prog C.w) es.toArray ∧ (kvs.map (·.1)).Nodup := by
  obtain ⟨⟨c, d, dt, sl⟩, es, ep, ho, ⟨hc, hd, hs⟩, hdt, hk, hp, hn⟩ := D
  dsimp only at hc hd hs hdt
  subst hc hd hs hdt
  exact ⟨es.toList, ep, by simpa using ho, hp, by simpa using hk, hn⟩

theorem PR.find {h : Heap} {K : Type} [DecidableEq K] {x : K} {y : V} : ∀ {kvs : List (K × Value)} {es : List (K × V)}, PR h kvs es → (es.find? fun p => decide (p.1 = x)).map (·.2) = some y → ∃ v, (kvs.find? fun p => decide (p.1 = x)).map (·.2) = some v ∧ VR h v y
  | _, _, .nil, e => by simp at e
  | _, _, .cons (k := k) r rs, e => by
    by_cases q : k = x
    · subst q
      simp only [List.find?_cons, decide_true, Option.map_some, Option.some.injEq] at e ⊢
      subst e
      exact ⟨_, rfl, r⟩
    · simp only [List.find?_cons, q, decide_false] at e ⊢
      exact PR.find rs e
theorem PR.find_none {h : Heap} {K : Type} [DecidableEq K] {x : K} : ∀ {kvs : List (K × Value)} {es : List (K × V)}, PR h kvs es → (es.find? fun p => decide (p.1 = x)) = none → (kvs.find? fun p => decide (p.1 = x)) = none
  | _, _, .nil, e => rfl
  | _, _, .cons (k := k) r rs, e => by
    by_cases q : k = x
    · subst q; simp at e
    · simp only [List.find?_cons, q, decide_false] at e ⊢
      exact PR.find_none rs e

theorem isStr_is (x : Str) (v : Value) : v.isStr x = Value.isStrOf x v := by cases v <;> rfl
theorem isStr_fun (x : Str) : (fun e : DictEntry => e.key.isStr x) = fun e => (strKind C.prog C.w).is x e.key := by
  funext e; exact isStr_is x e.key
theorem noRef_of_keys {es : List DictEntry} (hk : KeysOf (strKind C.prog C.w) es.toArray) : es.any (·.refKey) = false := by
  rw [List.any_eq_false]
  intro e he
  obtain ⟨k, q, _⟩ := hk e (by simpa using he)
  obtain ⟨t, hx⟩ := Value.isStrOf_shape q
  simp [DictEntry.refKey, hx]

theorem getL_of {kvs : List (Str × Value)} {es : List DictEntry} {x : Str} (hp : Pairs (strKind C.prog C.w) es kvs) (hk : KeysOf (strKind C.prog C.w) es.toArray) : getL x es = some (valueAt kvs x) := by
  have := hp.find x
  unfold getL
  rw [isStr_fun (C := C)]
  cases q : es.find? fun e => (strKind C.prog C.w).is x e.key with
  | some e => rw [q] at this; simpa using this
  | none =>
    rw [q] at this
    dsimp only
    rw [noRef_of_keys hk, ← this]
    rfl

def sget (es : List (Str × V)) (x : Str) : Option V := (es.find? fun p => decide (p.1 = x)).map (·.2)

theorem Ev.attr {o : Expr} {name : Str} {pos : Pos} {Q : V → Store → Prop}
    (h : Ev C A env o ρ σ (fun x σ1 => ∃ a c dx es y attr, x = .ref a ∧ σ1 a = some (.inst c dx) ∧ σ1 dx = some (.sd es) ∧ sget es name = some y ∧ plainGet C.K c name = true ∧ hasDictIn C.K c = true ∧
      findIn C.K (.ref c) name = some attr ∧ noGet C.K attr = true ∧ (∀ i, y ≠ .blt i) ∧ Q y σ1) X)
    (hbase : attributeBase o name env (eval o env) = eval o env := by kernel_rfl) : Ev C A env (.Attribute o name pos) ρ σ Q X := by
  intro s S F
  rw [arm_eval_Attribute, hbase]
  refine wpAny_bind (wpAny_mono (h s S F) ?_ fun _ _ z => z)
  rintro v s1 ⟨x, σ1, ⟨a, c, dx, es, y, attr, rfl, ha, hdx, hy, k1, k2, k3, k4, k5, q⟩, r1, S1, e1⟩
  cases r1
  have I0 := S1.rep _ _ ha
  obtain ⟨kvs, D, pr⟩ := S1.rep _ _ hdx
  obtain ⟨des, n, hd, hp, hk, hn⟩ := dict_obj D
  obtain ⟨u, hu, ru⟩ := pr.find (x := name) (y := y) hy
  have hv : handedIn u = true := by
    cases ru <;> try rfl
    exact absurd rfl (k5 _)
  refine wpAny_bind (wpAny_standAt (wpAny_bind (wpAny_holding ?_)))
  refine get_value S1.K ⟨I0, rfl, rfl, hd⟩ (plainGet_of k1).1 (findObj_own k2 k3 k4 ?_) hv ?_
  · rw [lookIn_dict, getL_of hp hk]; exact congrArg some hu
  · refine wpAny_bind (wpAny_letTemporaryGo (wpAny_pure ?_))
    exact ⟨y, σ1, q, ru, S1.toks _, e1⟩
end

end Mine

set_option autoImplicit false
set_option linter.unusedVariables false
namespace Mine
open PySem PySem.W

/-- str-keyed store -/
def sput : List (Str × V) → Str → V → List (Str × V)
  | [], x, v => [(x, v)]
  | (y, u) :: r, x, v => if x = y then (x, v) :: r else (y, u) :: sput r x v

section
variable {C : Cx} {A : Around} {env : Env} {ρ : Rho} {σ : Store} {X : XP} {s : Shared}

theorem PR.length {K : Type} {h : Heap} : ∀ {a : List (K × Value)} {b : List (K × V)}, PR h a b → a.length = b.length
  | _, _, .nil => rfl
  | _, _, .cons _ y => congrArg (· + 1) (PR.length y)
theorem stored_cons {K : Type} [DecidableEq K] {k x : K} {u v : Value} {r : List (K × Value)} (hn : (((k, u) :: r).map (·.1)).Nodup) :
    stored ((k, u) :: r) x v = if x = k then (x, v) :: r else (k, u) :: stored r x v := by
  by_cases q : x = k
  · subst q
    have : x ∉ r.map (·.1) := (List.nodup_cons.mp hn).1
    simp only [stored, List.any_cons, decide_true, Bool.true_or, if_true, List.map_cons]
    rw [map_store_of_not_mem r x v this]
  · have q' : ¬ k = x := fun e => q e.symm
    simp only [stored, List.any_cons, q', decide_false, Bool.false_or, List.map_cons, if_false, q]
    split <;> rfl

theorem PR.stored {h : Heap} {x : Str} {v : Value} {y : V} (r : VR h v y) : ∀ {kvs : List (Str × Value)} {es : List (Str × V)}, PR h kvs es → (kvs.map (·.1)).Nodup → PR h (stored kvs x v) (sput es x y)
  | _, _, .nil, _ => by
    show PR h (PySem.stored [] x v) [(x, y)]
    simp only [PySem.stored, List.any_nil, Bool.false_eq_true, if_false, List.nil_append]
    exact .cons r .nil
  | _, _, .cons (k := k) a b, hn => by
    rw [stored_cons hn]
    unfold sput
    by_cases q : x = k
    · rw [if_pos q, if_pos q]; exact .cons r b
    · rw [if_neg q, if_neg q]; exact .cons a (PR.stored r b (List.nodup_cons.mp hn).2)

theorem putName_dict {h : Heap} {d : Addr} {kvs : List (Str × Value)} {name : Str} {v : Value} {t : Tok} (D : h.DictOf (strKind C.prog C.w) d kvs) :
    ∃ es n, (h.update d (Obj.putName name (hashStr C.w name) (.str name t) v)).get? d = some (dictOf es n) ∧ es.length ≤ kvs.length + 1 ∧
    (h.update d (Obj.putName name (hashStr C.w name) (.str name t) v)).DictOf (strKind C.prog C.w) d (stored kvs name v) := by
  obtain ⟨⟨c, dd, dt, sl⟩, es, ep, ho, ⟨hc, hd, hs⟩, hdt, hk, hp, hn⟩ := D
  dsimp only at hc hd hs hdt
  subst hc hd hs hdt
  have hkey : (strKind C.prog C.w).is name (.str name t) = true := by show (name == name) = true; simp
  have hidx : (es.findIdx? fun e => (strKind C.prog C.w).is name e.key) = kvs.findIdx? fun kv => decide (kv.1 = name) := by
    rw [← hp.findIdx name]; obtain ⟨l⟩ := es; simp
  have hlen := hp.length
  have e0 : (es.findIdx? fun e => e.key.isStr name) = es.findIdx? fun e => (strKind C.prog C.w).is name e.key := by rw [isStr_fun (C := C)]
  cases hi : es.findIdx? fun e => (strKind C.prog C.w).is name e.key with
  | some i =>
    have e1 : Obj.putName name (hashStr C.w name) (.str name t) v ⟨.type "dict", none, .dict es ep, #[]⟩ = dictOf (es.modify i fun e => { e with val := v }).toList ep := by
      rw [Obj.putName_eq]; unfold Obj.putNameByArray; dsimp only; rw [e0, hi]
    have g : (h.update d (Obj.putName name (hashStr C.w name) (.str name t) v)).get? d = some (dictOf (es.modify i fun e => { e with val := v }).toList ep) := by
      rw [Heap.get?_update_self _ ho (by rw [e1]; rfl), e1]
    refine ⟨_, _, g, by simp at hlen ⊢; omega, _, _, ep, g, ⟨rfl, rfl, rfl⟩, rfl, by rw [Array.toArray_toList]; exact hk.modify i v, ?_, ?_⟩
    · rw [stored, if_pos (any_of_findIdx_some (hidx ▸ hi))]
      have hl : (es.toList.findIdx? fun e => (strKind C.prog C.w).is name e.key) = some i := by rw [← hi]; obtain ⟨l⟩ := es; simp
      have := hp.modify hn hl v
      obtain ⟨l⟩ := es
      simpa using this
    · rw [stored, if_pos (any_of_findIdx_some (hidx ▸ hi)), keys_map_store]; exact hn
  | none =>
    have hnot : name ∉ kvs.map (·.1) := not_mem_of_findIdx_none (hidx ▸ hi)
    have hany : ¬ (kvs.any fun kv => decide (kv.1 = name)) = true := by
      rw [List.any_eq_true]; rintro ⟨kv, hkv, he⟩
      exact hnot (List.mem_map.mpr ⟨kv, hkv, of_decide_eq_true he⟩)
    have e1 : Obj.putName name (hashStr C.w name) (.str name t) v ⟨.type "dict", none, .dict es ep, #[]⟩ = dictOf (es.push ⟨hashStr C.w name, .str name t, v⟩).toList (ep + 1) := by
      rw [Obj.putName_eq]; unfold Obj.putNameByArray; dsimp only; rw [e0, hi]
    have g : (h.update d (Obj.putName name (hashStr C.w name) (.str name t) v)).get? d = some (dictOf (es.push ⟨hashStr C.w name, .str name t, v⟩).toList (ep + 1)) := by
      rw [Heap.get?_update_self _ ho (by rw [e1]; rfl), e1]
    refine ⟨_, _, g, by simp at hlen ⊢; omega, _, _, ep + 1, g, ⟨rfl, rfl, rfl⟩, rfl, by rw [Array.toArray_toList]; exact hk.push hkey v, ?_, ?_⟩
    · rw [stored, if_neg hany]
      have := hp.append hkey (hashStr C.w name) v
      obtain ⟨l⟩ := es
      simpa using this
    · rw [stored, if_neg hany, List.map_append, List.nodup_append]
      refine ⟨hn, by simp, ?_⟩
      intro a ha b hb
      simp only [List.map_cons, List.map_nil, List.mem_singleton] at hb
      subst hb
      exact fun e => hnot (e ▸ ha)

theorem setAttr_mine {x c dx : Addr} {kvs : List (Str × Value)} {name : Str} {v : Value} {E : XP} {Q : Unit → Shared → Prop} (KX : C.K.In s.heap) (hx : s.heap.get? x = some (instO c dx)) (D : s.heap.DictOf (strKind C.prog C.w) dx kvs)
    (hs : findIn C.K (.ref c) "__setattr__" = some (some (.builtin "object.__setattr__"))) (hp : plainOver C.K c = true) (ht : takerIn C.K c name = some none) (hh : hasDictIn C.K c = true) (hz : kvs.length ≤ 1000)
    (h : ∀ h', h'.DictOf (strKind C.prog C.w) dx (stored kvs name v) → Heap.SameBut dx s.heap h' → Q () { s with heap := h', toks := s.toks + 1 + 1 }) : wpAny C.M A (setAttr (.ref x) name v) Q E s := by
  obtain ⟨es, n, hd, hpr, hk, hn⟩ := dict_obj D
  have I : InstAt s.heap x (instO c dx) c (some (dictOf es n)) := ⟨hx, rfl, rfl, hd⟩
  refine set_plain KX I hs (osa_open (s := { s with toks := s.toks + 1 }) KX I hp ht fun b => ?_)
  obtain ⟨cd, hc, hd'⟩ := any_some hh
  refine wpAny_bind (wpAny_pure (wpAny_bind (wpAny_bind (wpAny_loadPart (s := { s with toks := s.toks + 1 }) hx (wpAny_bind (Looks.here (s := { s with toks := s.toks + 1 }) (looks_clsIn KX hc) ?_))))))
  rw [hd']
  refine wpAny_pure (a := some dx) (wpAny_bind (wpAny_pure (wpAny_bind ?_)))
  unfold nsSet
  refine wpAny_bind (wpAny_bind (wpAny_askSetting (wpAny_pure (wpAny_bind (wpAny_mkText (wpAny_bind (wpAny_loadPart (s := { s with toks := s.toks + 1 + 1 }) hd ?_)))))))
  have cc : (!es.toArray.any (·.key.isStr name) && es.toArray.any (·.refKey)) = false := by
    rw [← Array.any_toList, ← Array.any_toList]
    simp only [noRef_of_keys hk, Bool.and_false]
  dsimp only
  rw [aRefKeyMayBeTheName_at, cc]
  obtain ⟨es', n', g, hl, D'⟩ := putName_dict (name := name) (v := v) (t := s.toks + 1) D
  refine wpAny_updatePart (s := { s with toks := s.toks + 1 + 1 }) hd ?_
  refine wpAny_bind (wpAny_lookBehind g (pastItsLine_dict (by rw [List.size_toArray, sizeLine_eq]; omega)) ?_)
  exact wpAny_pure (h _ D' (Heap.SameBut.update ..))

theorem Asg.attr {o : Expr} {name : Str} {pos : Pos} {y : V} {Q : Rho → Store → Prop}
    (h : Ev C A env o ρ σ (fun x σ1 => ∃ a c dx es, x = .ref a ∧ σ1 a = some (.inst c dx) ∧ σ1 dx = some (.sd es) ∧ es.length ≤ 1000 ∧
      findIn C.K (.ref c) "__setattr__" = some (some (.builtin "object.__setattr__")) ∧ plainOver C.K c = true ∧ takerIn C.K c name = some none ∧ hasDictIn C.K c = true ∧ Q ρ (σ1.upd dx (.sd (sput es name y)))) X) :
    Asg C A env (.Attribute o name pos) y ρ σ Q X := by
  intro s v S F r
  rw [assign_Attribute]
  refine wpAny_bind (wpAny_holding (wpAny_mono (h s S F) ?_ fun _ _ z => z))
  rintro ov s1 ⟨x, σ1, ⟨a, c, dx, es, rfl, ha, hdx, hz, k1, k2, k3, k4, q⟩, r1, S1, e1⟩
  cases r1
  have I0 := S1.rep _ _ ha
  have hdx' := S1.rep _ _ hdx
  obtain ⟨kvs, D, pr⟩ := hdx'
  have hl : kvs.length = es.length := pr.length
  have hnd : (kvs.map (·.1)).Nodup := by obtain ⟨_, _, _, _, _, _, _, _, hn⟩ := D; exact hn
  refine wpAny_bind (wpAny_standAt (wpAny_bind (wpAny_holding (setAttr_mine S1.K I0 D k1 k2 k3 k4 (by omega) fun h' D' sb => ?_))))
  refine PyProof.Rows.wpAny_release' ?_
  have tk : TupKeep s1.heap h' := tupKeep_sameBut sb (S1.rep _ _ hdx).notTup
  obtain ⟨S2, e2⟩ := S1.set (t := s1.toks + 1 + 1) (o' := .sd (sput es name y)) hdx sb ⟨_, D', PR.stored ((r.mono e1.tup).mono tk) (pr.mono tk) hnd⟩
  exact ⟨ρ, _, q, S2, (F.evo e1).evo e2, (e1.trans e2).evoF F.own⟩

/- a method of an own instance -/

theorem Ev.meth {o : Expr} {name : Str} {apos pos : Pos} {args : List Expr} {Q : V → Store → Prop} {pl : Sem Bool}
    (h : Ev C A env o ρ σ (fun x σ1 => ∃ a c dx es f, x = .ref a ∧ σ1 a = some (.inst c dx) ∧ σ1 dx = some (.sd es) ∧ sget es name = none ∧ plainGet C.K c name = true ∧
      findIn C.K (.ref c) name = some (some (.ref f)) ∧ isFn C.K (.ref f) = true ∧ keepIn C.K (.ref f) = true ∧ Ags C A env pos args ρ σ1 (fun xs σ2 => CallWP C A (.ref f) (.ref a :: xs) σ2 Q X) X) X)
    (he : eval (.Call (.Attribute o name apos) args [] pos) env = (do
      let ov ← eval o env
      standAt apos.atName
      let (f, first) ← holding [ov] (getMethod ov name pl)
      callWith pos f first (backTo pos (starEach args env)) (backToKw pos (keywordEach [] env))) := by kernel_rfl)
    (hst : (backTo pos (starEach args env)).any (·.1) = false := by kernel_rfl) : Ev C A env (.Call (.Attribute o name apos) args [] pos) ρ σ Q X := by
  intro s S F
  refine methodCall_KW (wpAny_mono (h s S F) ?_ fun _ _ z => z) he
  rintro ov s1 ⟨x, σ1, ⟨a, c, dx, es, f, rfl, ha, hdx, hy, k1, k2, k3, k4, q⟩, r1, S1, e1⟩
  cases r1
  have I0 := S1.rep _ _ ha
  obtain ⟨kvs, D, pr⟩ := S1.rep _ _ hdx
  obtain ⟨des, n, hd, hp, hk, hn⟩ := dict_obj D
  have hy' : (es.find? fun p => decide (p.1 = name)) = none := by
    unfold sget at hy
    cases q : es.find? fun p => decide (p.1 = name) with
    | none => rfl
    | some z => rw [q] at hy; cases hy
  have I : InstAt s1.heap a (instO c dx) c (some (dictOf des n)) := ⟨I0, rfl, rfl, hd⟩
  refine method_fn S1.K I (plainGet_of k1).1 (plainGet_of k1).2 k2 (beq_iff_eq.mp k3) ?_ ?_
  · show (lookIn name (dictOf des n)).map _ = _
    rw [lookIn_dict, getL_of hp hk]
    unfold valueAt
    rw [pr.find_none hy']; rfl
  · exact wpAny_mono (callWith_mine (first := [.ref a]) (fx := [.ref a]) (Kp.ref k4) S1 (F.evo e1) (.cons (.ref _) .nil) q hst) (fun _ _ z => z.after e1) fun _ _ z => z
end

end Mine

set_option autoImplicit false
set_option linter.unusedVariables false
namespace Mine
open PySem PySem.W

/-- an iterator: `ow` are its own objects, `J k` its state ahead of its k-th item -/
structure Itr (C : Cx) (A : Around) (target : Expr) (it : Value) (ow : Addr → Prop) (J : Nat → Heap → Prop) (ok : Store → Prop) (xs : List V) : Prop where
  frame : ∀ k h h', J k h → TupKeep h h' → (∀ b o, ow b → h.get? b = some o → h'.get? b = some o) → J k h'
  notTup : ∀ k h b o, J k h → ow b → h.get? b = some o → ¬ Imm o
  there : ∀ k h b, J k h → ow b → ∃ o, h.get? b = some o
  more : ∀ k σ s x (Q : Option Value → Shared → Prop) (X : XP), St C σ s → ok σ → J k s.heap → xs[k]? = some x → (∀ b, ow b → σ b = none) →
    (∀ v h' tk, VR h' v x → (∀ b o, ¬ ow b → s.heap.get? b = some o → h'.get? b = some o) → (∀ b o, ow b → h'.get? b = some o → ¬ Imm o) →
      (∀ (Q' : Unit → Shared → Prop) (X' : XP), (∀ h'' tk', J (k + 1) h'' → (∀ b o, ¬ ow b → h'.get? b = some o → h''.get? b = some o) → Q' () { s with heap := h'', toks := tk' }) →
        wpAny C.M A (letOwnedTupleGo target it v) Q' X' { s with heap := h', toks := tk }) → Q (some v) { s with heap := h', toks := tk }) → wpAny C.M A (pyNext it) Q X s
  self : ∀ k (s : Shared) (Q : Value → Shared → Prop) (X : XP), J k s.heap → Q it s → wpAny C.M A (pyIter it) Q X s
  done : ∀ k σ s (Q : Option Value → Shared → Prop) (X : XP), St C σ s → ok σ → J k s.heap → xs[k]? = none → (∀ b, ow b → σ b = none) →
    (∀ h' tk, (∀ b o, ¬ ow b → s.heap.get? b = some o → h'.get? b = some o) → Q none { s with heap := h', toks := tk }) → wpAny C.M A (pyNext it) Q X s

section
variable {C : Cx} {A : Around} {env : Env} {ρ : Rho} {σ : Store} {X : XP} {s : Shared}

theorem tk_ow {h h' : Heap} {ow : Addr → Prop} (k : ∀ b o, ¬ ow b → h.get? b = some o → h'.get? b = some o) (nt : ∀ b o, ow b → h.get? b = some o → ¬ Imm o) : TupKeep h h' :=
  fun a o i e => k a _ (fun q => nt a o q e i) e
theorem St.ow {h' : Heap} {t : Nat} {ow : Addr → Prop} (S : St C σ s) (k : ∀ b o, ¬ ow b → s.heap.get? b = some o → h'.get? b = some o) (nt : ∀ b o, ow b → s.heap.get? b = some o → ¬ Imm o)
    (no : ∀ b, ow b → σ b = none) (nb : ∀ b, ow b → C.h₀.get? b = none) : St C σ { s with heap := h', toks := t } :=
  ⟨fun b o e => k b o (fun q => by rw [nb b q] at e; cases e) (S.base b o e), fun a o e => (S.rep a o e).at (fun x hx => k a x (fun q => by rw [no a q] at e; cases e) hx) (tk_ow k nt), S.above, S.gens, S.os⟩
theorem Fm.ow {h h' : Heap} {ow : Addr → Prop} (F : Fm C σ h env ρ) (k : ∀ b o, ¬ ow b → h.get? b = some o → h'.get? b = some o) (nt : ∀ b o, ow b → h.get? b = some o → ¬ Imm o) (no : ∀ b, ow b → ¬ Own env b) : Fm C σ h' env ρ := by
  obtain ⟨f1, ⟨m, hm, f2⟩, f3, f5, f6, f7, f8⟩ := F
  have tk := tk_ow k nt
  obtain ⟨o, es, ep, ho, rest⟩ := hm
  refine ⟨f1, ⟨m, ⟨o, es, ep, k _ _ (fun q => no _ q (.inl rfl)) ho, rest⟩, fun x v hx hv => ?_⟩, f3, f5, fun x c hc => ?_, f7, f8⟩
  · obtain ⟨u, a, b⟩ := f2 x v hx hv
    exact ⟨u, a, b.mono tk⟩
  · obtain ⟨ov, a, b⟩ := f6 x c hc
    refine ⟨ov, isCell_at a fun o e => k _ _ (fun q => no _ q (.inr ⟨x, hc⟩)) e, fun v hv => ?_⟩
    obtain ⟨u, p, q⟩ := b v hv
    exact ⟨u, p, q.mono tk⟩
theorem EvoF.ow {σ0 : Store} {h0 h h' : Heap} {ow : Addr → Prop} (e : EvoF env σ0 h0 σ h) (k : ∀ b o, ¬ ow b → h.get? b = some o → h'.get? b = some o) (fr : ∀ b, ow b → h0.get? b = none) : EvoF env σ0 h0 σ h' := by
  refine ⟨fun b o q n w => k b o (fun z => by rw [fr b z] at q; cases q) (e.keep b o q n w), e.dom, e.mono, fun a i n q => k a _ (fun z => by rw [fr a z] at q; cases q) (e.tup a i n q), fun b o q w => ?_⟩
  obtain ⟨o', q'⟩ := e.there b o q w
  exact ⟨o', k b o' (fun z => by rw [fr b z] at q; cases q) q'⟩

/-- the turns of a for -/
theorem for_turns {target : Expr} {it : Value} {body : List Stmt} {ow : Addr → Prop} {J : Nat → Heap → Prop} {ok : Store → Prop} {xs : List V} (W : Itr C A target it ow J ok xs) {σ0 : Store} {h0 : Heap}
    (I : Nat → Rho → Store → Prop) (Q : FV → Rho → Store → Prop)
    (fr : ∀ b, ow b → h0.get? b = none) (fro : ∀ b, ow b → ¬ Own env b) (frb : ∀ b, ow b → C.h₀.get? b = none)
    (turn : ∀ k ρ σ, I k ρ σ → ok σ ∧ match xs[k]? with
      | none => Q .next ρ σ
      | some x => Asg C A env target x ρ σ (fun ρ1 σ1 => Exs C A env body ρ1 σ1 (fun g ρ2 σ2 => match g with
          | .next | .cont => I (k + 1) ρ2 σ2
          | .brk => Q .next ρ2 σ2
          | .ret v => Q (.ret v) ρ2 σ2) (fun _ _ => False)) (fun _ _ => False)) :
    ∀ m k ρ σ s, xs.length - k = m → I k ρ σ → St C σ s → Fm C σ s.heap env ρ → EvoF env σ0 h0 σ s.heap → J k s.heap → (∀ b, ow b → σ b = none) →
      codeAny C.M A (.forLoop target it body [] env) (fun r s' => match r with | .ok f => SP C env σ0 h0 Q f s' | .error _ => False) s := by
  intro m
  induction m using Nat.strongRecOn with
  | ind m ih =>
  intro k ρ σ s hm hI S F e0 hJ no
  obtain ⟨hok, tn⟩ := turn k ρ σ hI
  refine codeAny_of_tree ?_
  show wpAny C.M _ ((forTurn target it body [] env).onRaise (fun x => do noteFrame x env; theTreesLotGoes x)) _ _ s
  rw [show A.under (.forLoop target it body [] env) = A from Around.under_of_weight (by rfl)]
  refine wpAny_noted ?_
  unfold forTurn
  refine wpAny_bind (wpAny_standAt (wpAny_bind (wpAny_onRaise ?_)))
  have nt : ∀ b o, ow b → s.heap.get? b = some o → ¬ Imm o := fun b o q => W.notTup k _ b o hJ q
  cases hx : xs[k]? with
  | none =>
    rw [hx] at tn
    refine W.done k σ s _ _ S hok hJ hx no fun h' tk kp => ?_
    refine wpAny_pure ⟨rfl, codeAny_of_tree ?_⟩
    show wpAny C.M _ (do return Fin.done (← (execs [] env).onRaise (fun x => do noteFrame x env; theTreesLotGoes x))) _ _ _
    refine wpAny_bind (wpAny_noted (wpAny_execs_nil (wpAny_pure ?_)))
    exact ⟨.next, ρ, σ, tn, .next, S.ow kp nt no frb, F.ow kp nt fro, e0.ow kp fr⟩
  | some x =>
    rw [hx] at tn
    have hk : k < xs.length := by
      have := List.getElem?_eq_some_iff.mp hx
      exact this.1
    refine W.more k σ s x _ _ S hok hJ hx no fun v h' tk rv kp nt' go => ?_
    refine wpAny_bind (go _ _ fun h'' tk' J' kp' => ?_)
    have kp2 : ∀ b o, ¬ ow b → s.heap.get? b = some o → h''.get? b = some o := fun b o q e => kp' b o q (kp b o q e)
    have S2 : St C σ { s with heap := h'', toks := tk' } := S.ow kp2 nt no frb
    have F2 : Fm C σ h'' env ρ := F.ow kp2 nt fro
    have rv2 : VR h'' v x := rv.mono (tk_ow kp' nt')
    refine wpAny_bind (wpAny_mono (tn { s with heap := h'', toks := tk' } v S2 F2 rv2) ?_ fun _ _ z => z.elim)
    rintro _ s3 ⟨ρ1, σ1, q1, S3, F3, e3⟩
    refine wpAny_bind (wpAny_mono (q1 s3 S3 F3) ?_ fun _ _ z => z.elim)
    rintro f s4 ⟨g, ρ2, σ2, q2, r2, S4, F4, e4⟩
    have e04 : EvoF env σ0 h0 σ2 s4.heap := ((e0.ow kp2 fr).trans e3).trans e4
    have al2 : ∀ b, ow b → ∃ o, h''.get? b = some o := fun b q => W.there _ _ b J' q
    have e24 : EvoF env σ h'' σ2 s4.heap := e3.trans e4
    have kpo : ∀ b o, ow b → h''.get? b = some o → s4.heap.get? b = some o := fun b o q e => e24.keep b o e (no b q) (fro b q)
    have no4 : ∀ b, ow b → σ2 b = none := fun b q => by
      cases z : σ2 b with
      | none => rfl
      | some o =>
        rcases e24.dom b o z with ⟨o', e'⟩ | e'
        · rw [no b q] at e'; cases e'
        · obtain ⟨o', e2⟩ := al2 b q
          rw [e2] at e'; cases e'
    have again' : I (k + 1) ρ2 σ2 → codeAny C.M A (.forLoop target it body [] env) (fun r s' => match r with | .ok f => SP C env σ0 h0 Q f s' | .error _ => False) s4 := fun hI' =>
      ih (xs.length - (k + 1)) (by omega) (k + 1) ρ2 σ2 s4 rfl hI' S4 F4 e04 (W.frame _ _ _ J' e24.tup kpo) no4
    cases r2 with
    | next => exact wpAny_pure ⟨rfl, again' q2⟩
    | cont => exact wpAny_pure ⟨rfl, again' q2⟩
    | brk => exact wpAny_pure ⟨.next, ρ2, σ2, q2, .next, S4, F4, e04⟩
    | ret r => exact wpAny_pure ⟨_, ρ2, σ2, q2, .ret r, S4, F4, e04⟩

/-- the turns, item by item -/
def ForL (C : Cx) (A : Around) (env : Env) (target : Expr) (body : List Stmt) (ok : Store → Prop) (Q : FV → Rho → Store → Prop) : List V → Rho → Store → Prop
  | [], ρ, σ => Q .next ρ σ
  | x :: xs, ρ, σ => Asg C A env target x ρ σ (fun ρ1 σ1 => Exs C A env body ρ1 σ1 (fun g ρ2 σ2 => match g with
      | .next | .cont => ok σ2 ∧ ForL C A env target body ok Q xs ρ2 σ2
      | .brk => Q .next ρ2 σ2
      | .ret v => Q (.ret v) ρ2 σ2) (fun _ _ => False)) (fun _ _ => False)

theorem for_run {target : Expr} {it : Value} {body : List Stmt} {ow : Addr → Prop} {J : Nat → Heap → Prop} {ok : Store → Prop} {xs : List V} (W : Itr C A target it ow J ok xs) {σ0 : Store} {h0 : Heap} {Q : FV → Rho → Store → Prop}
    (fr : ∀ b, ow b → h0.get? b = none) (fro : ∀ b, ow b → ¬ Own env b) (frb : ∀ b, ow b → C.h₀.get? b = none) (no : ∀ b, ow b → σ b = none)
    (S : St C σ s) (F : Fm C σ s.heap env ρ) (e0 : EvoF env σ0 h0 σ s.heap) (hJ : J 0 s.heap) (hok : ok σ) (h : ForL C A env target body ok Q xs ρ σ) :
    codeAny C.M A (.forLoop target it body [] env) (fun r s' => match r with | .ok f => SP C env σ0 h0 Q f s' | .error _ => False) s := by
  refine for_turns W (fun k ρ σ => ok σ ∧ ForL C A env target body ok Q (xs.drop k) ρ σ) Q fr fro frb (fun k ρ σ hI => ⟨hI.1, ?_⟩) _ 0 ρ σ s rfl ⟨hok, by simpa using h⟩ S F e0 hJ no
  cases hx : xs[k]? with
  | none =>
    have : xs.drop k = [] := List.drop_eq_nil_of_le (List.getElem?_eq_none_iff.mp hx)
    have h2 := hI.2
    rw [this] at h2
    exact h2
  | some x =>
    obtain ⟨hk, rfl⟩ := List.getElem?_eq_some_iff.mp hx
    have h2 := hI.2
    rw [List.drop_eq_getElem_cons hk] at h2
    exact h2

/-- no tuple of its own to let go -/
theorem letGo_plain {target : Expr} {it : Addr} {v : Value} {o : Obj} {T : String} {Q : Unit → Shared → Prop} {E : XP} (e : s.heap.get? it = some o) (hc : o.cls = .type T)
    (hT : ["enumerate", "zip", "dict_itemiterator", "dict_reverseitemiterator", "odict_iterator", "itertools.zip_longest", "itertools.pairwise"].contains T = false) (h : Q () s) : wpAny C.M A (letOwnedTupleGo target (.ref it) v) Q E s := by
  have key : ∀ (v : Value), wpAny C.M A (do
      let (.ref r, .ref a) := ((Value.ref it, v) : Value × Value) | return
      let o ← load r
      match o.cls, o.data with
      | .type n, .fields vs =>
        if ["enumerate", "zip", "dict_itemiterator", "dict_reverseitemiterator", "odict_iterator", "itertools.zip_longest", "itertools.pairwise"].contains n && vs[0]? == some (rawInt a) then
          rule "for.unpacks-the-owned-tuple"
          updateField r 0 .none
      | _, _ => pure ()) Q E s := fun v => by
    cases v <;> try exact wpAny_pure h
    refine wpAny_bind (wpAny_load e ?_)
    rw [hc]
    cases o.data <;> try exact wpAny_pure h
    simp only [hT, Bool.false_and, Bool.false_eq_true, if_false]
    exact wpAny_pure h
  cases target <;> first | exact wpAny_pure h | exact key v

/- lists -/
theorem Itr.list {target : Expr} {it l : Addr} {xs : List V} (hh : A.handled = none) (hne : it ≠ l) :
    Itr C A target (.ref it) (fun b => b = it) (fun k h => h.IsListIter it l k) (fun σ => LstAt C σ l xs) xs where
  frame := fun k h h' ⟨o, e, r⟩ _ kp => ⟨o, kp it o rfl e, r⟩
  notTup := fun k h b o' ⟨o, e, c, _⟩ q z => by subst q; rw [e] at z; cases z; exact Imm.not (by rw [c]; simp) (by rw [c]; simp)
  there := fun k h b ⟨o, e, _⟩ q => by subst q; exact ⟨o, e⟩
  more := fun k σ s x Q X S hok hJ hx no hQ => by
    obtain ⟨items, hl, hr⟩ := hok.raw S
    obtain ⟨u, hu, ru⟩ := hr.get hx
    refine wpAny_pyNext_list_item hJ hl (by simpa using hu) fun h' J' sb => ?_
    have kp : ∀ b o, ¬ b = it → s.heap.get? b = some o → h'.get? b = some o := fun b o q e => (sb.2 b q).trans e
    have tk : TupKeep s.heap h' := tk_ow (ow := fun b => b = it) kp fun b o' q => by
      subst q
      obtain ⟨o, e, c, _⟩ := hJ
      intro z; rw [e] at z; cases z; exact Imm.not (by rw [c]; simp) (by rw [c]; simp)
    refine hQ u h' s.toks (ru.mono tk) kp (fun b o' q z => ?_) (fun Q' X' hq => by
      obtain ⟨o, e, c, _⟩ := id J'
      exact letGo_plain (s := { s with heap := h' }) e c (by decide) (hq h' s.toks J' fun _ _ _ e => e))
    subst q
    obtain ⟨o, e, c, _⟩ := J'
    rw [e] at z; cases z; exact Imm.not (by rw [c]; simp) (by rw [c]; simp)
  self := fun k s Q X hJ hq => wpAny_pyIter_listiter hJ hq
  done := fun k σ s Q X S hok hJ hx no hQ => by
    obtain ⟨items, hl, hr⟩ := hok.raw S
    have hn : items[k]? = none := by
      have h1 := List.getElem?_eq_none_iff.mp hx
      have h2 := hr.length
      simp only [Array.length_toList] at h2
      exact Array.getElem?_eq_none_iff.mpr (by omega)
    exact wpAny_pyNext_list_end hh hJ hl hn fun h' kp => hQ h' s.toks fun b o q e => kp b o q e

theorem no_own_fresh {h : Heap} (F : Fm C σ h env ρ) : ¬ Own env h.objs.size := by
  rintro (q | ⟨x, q⟩)
  · obtain ⟨m, hm, _⟩ := F.loc
    have := hm.lt
    rw [← q] at this; exact Nat.lt_irrefl _ this
  · obtain ⟨ov, a, _⟩ := F.cell x _ q
    exact Nat.lt_irrefl _ a.lt

end

end Mine

set_option autoImplicit false
set_option linter.unusedVariables false
namespace Mine
open PySem PySem.W

section
variable {C : Cx} {A : Around} {env : Env} {ρ : Rho} {σ : Store} {X : XP} {s : Shared}

theorem Evo.ow {σ0 : Store} {h0 h h' : Heap} {ow : Addr → Prop} (e : Evo σ0 h0 σ h) (k : ∀ b o, ¬ ow b → h.get? b = some o → h'.get? b = some o) (fr : ∀ b, ow b → h0.get? b = none) : Evo σ0 h0 σ h' :=
  ⟨fun b o q n => k b o (fun z => by rw [fr b z] at q; cases q) (e.keep b o q n), e.dom, e.mono, fun a i n q => k a _ (fun z => by rw [fr a z] at q; cases q) (e.tup a i n q)⟩

theorem Fm.less {h : Heap} {ρ' : Rho} (F : Fm C σ h env ρ) (k : ∀ x v, ρ'.get x = some v → ρ.get x = some v) : Fm C σ h env ρ' := by
  obtain ⟨f1, ⟨m, hm, f2⟩, f3, f5, f6, f7, f8⟩ := F
  refine ⟨f1, ⟨m, hm, fun x v hx hv => f2 x v hx (k x v hv)⟩, f3, f5, fun x c hc => ?_, f7, f8⟩
  obtain ⟨ov, a, b⟩ := f6 x c hc
  exact ⟨ov, a, fun v hv => b v (k x v hv)⟩

/-- the tests of a comprehension: none, or one -/
def Ifs (C : Cx) (A : Around) (env : Env) (ifs : List Expr) (ρ : Rho) (σ : Store) (Q : Bool → Store → Prop) (X : XP) : Prop :=
  match ifs with
  | [] => Q true σ
  | [c] => Tst C A env c ρ σ Q X
  | _ => False
theorem Ifs.run {ifs : List Expr} {Q : Bool → Store → Prop} (h : Ifs C A env ifs ρ σ Q X) (S : St C σ s) (F : Fm C σ s.heap env ρ) :
    wpAny C.M A (forIn ifs true fun c r => if r = true then do let ok ← isTrue c env (eval c env); pure (ForInStep.yield ok) else pure (ForInStep.yield r)) (TP C σ s.heap Q) X s := by
  match ifs, h with
  | [], h => exact wpAny_tests_nil (TP.pure S h)
  | [c], h => exact wpAny_tests_one (h s S F)

/-- the turns of a comprehension, item by item -/
def CmpL (C : Cx) (A : Around) (env : Env) (x : Str) (ifs : List Expr) (elt : Expr) (ok : Store → Prop) (ρ : Rho) (R : List V → Store → Prop) : List V → List V → Store → Prop
  | [], out, σ => R out σ
  | y :: ys, out, σ => Ifs C A env ifs (ρ.put x y) σ (fun b σ1 =>
      if b then Ev C A env elt (ρ.put x y) σ1 (fun z σ2 => out.length ≤ sizeLine ∧ ok σ2 ∧ CmpL C A env x ifs elt ok ρ R ys (out ++ [z]) σ2) (fun _ _ => False)
      else ok σ1 ∧ CmpL C A env x ifs elt ok ρ R ys out σ1) (fun _ _ => False)

theorem comp_turns {x : Str} {px pos : Pos} {elt iter : Expr} {ifs : List Expr} {scope : Scope} {it : Value} {ow : Addr → Prop} {J : Nat → Heap → Prop} {ok : Store → Prop} {xs : List V} {acc : Addr}
    (W : Itr C A (.Name x px) it ow J ok xs) {σ0 : Store} {h0 : Heap} {R : List V → Store → Prop} {RR : Result → Shared → Prop}
    (hx : env.kindOf x = some .local) (hxc : env.cells.lookup x = none) (hxr : ρ.get x = none)
    (fr : ∀ b, ow b → h0.get? b = none) (fra : h0.get? acc = none) (frl : h0.get? env.locals = none) (frb : ∀ b, ow b → C.h₀.get? b = none) (frba : C.h₀.get? acc = none)
    (nac : ¬ ow acc) (nal : acc ≠ env.locals) (nol : ¬ ow env.locals) (noo : ∀ b, ow b → ¬ Own env b) (nao : ¬ Own env acc)
    (hR : ∀ out σ s items, R out σ → St C σ s → Evo σ0 h0 σ s.heap → s.heap.PlainList acc items → VRs s.heap items.toList out → σ acc = none → (∃ m, s.heap.Ns env.locals m) → σ env.locals = none → RR (.ok .next) s) :
    ∀ m k out σ s items, xs.length - k = m → ok σ → CmpL C A env x ifs elt ok ρ R (xs.drop k) out σ → St C σ s → Fm C σ s.heap env ρ → Evo σ0 h0 σ s.heap → J k s.heap → (∀ b, ow b → σ b = none) →
      s.heap.PlainList acc items → VRs s.heap items.toList out → σ acc = none →
      codeAny C.M A (.compLoop (.ListComp elt [⟨.Name x px, iter, ifs, 0⟩] scope pos) 0 it (.ref acc) env) RR s := by
  intro m
  induction m using Nat.strongRecOn with
  | ind m ih =>
  intro k out σ s items hm hok hL S F e0 hJ no pl rl na
  have nt : ∀ b o, ow b → s.heap.get? b = some o → ¬ Imm o := fun b o q => W.notTup k _ b o hJ q
  have dn : ∀ (σ' : Store) (h h' : Heap), Evo σ h σ' h' → ∀ b o, h.get? b = some o → σ b = none → σ' b = none := fun σ' h h' e b o q n => by
    cases z : σ' b with
    | none => rfl
    | some o2 =>
      rcases e.dom b o2 z with ⟨o', e'⟩ | e'
      · rw [n] at e'; cases e'
      · rw [q] at e'; cases e'
  refine codeAny_of_tree ?_
  show wpAny C.M _ ((compTurn (.ListComp elt [⟨.Name x px, iter, ifs, 0⟩] scope pos) 0 it (.ref acc) env).onRaise (fun x => do noteFrame x env; theTreesLotGoes x)) _ _ s
  rw [show A.under (.compLoop (.ListComp elt [⟨.Name x px, iter, ifs, 0⟩] scope pos) 0 it (.ref acc) env) = A from Around.under_of_weight (by rfl)]
  refine wpAny_noted ?_
  rw [compTurn_list]
  refine wpAny_bind (wpAny_standAt (wpAny_bind ?_))
  cases hxk : xs[k]? with
  | none =>
    have hd : xs.drop k = [] := List.drop_eq_nil_of_le (List.getElem?_eq_none_iff.mp hxk)
    rw [hd] at hL
    refine W.done k σ s _ _ S hok hJ hxk no fun h' tk kp => ?_
    refine wpAny_pure ?_
    have S' : St C σ { s with heap := h', toks := tk } := S.ow kp nt no frb
    obtain ⟨m', hm', _⟩ := (F.ow kp nt noo).loc
    exact hR out σ _ items hL S' (e0.ow kp fr) (pl.at fun o e => kp _ _ nac e) (rl.mono (tk_ow kp nt)) na ⟨m', hm'⟩ F.locs
  | some y =>
    obtain ⟨hk, rfl⟩ := List.getElem?_eq_some_iff.mp hxk
    rw [List.drop_eq_getElem_cons hk] at hL
    refine W.more k σ s _ _ _ S hok hJ hxk no fun v h' tk rv kp nt' go => ?_
    refine wpAny_bind (go _ _ fun h'' tk' J' kp' => ?_)
    have kp2 : ∀ b o, ¬ ow b → s.heap.get? b = some o → h''.get? b = some o := fun b o q e => kp' b o q (kp b o q e)
    have S2 : St C σ { s with heap := h'', toks := tk' } := S.ow kp2 nt no frb
    have F2 : Fm C σ h'' env ρ := F.ow kp2 nt noo
    have rv2 : VR h'' v xs[k] := rv.mono (tk_ow kp' nt')
    have e2 : Evo σ0 h0 σ h'' := e0.ow kp2 fr
    have pl2 : h''.PlainList acc items := pl.at fun o e => kp2 _ _ nac e
    have rl2 : VRs h'' items.toList out := rl.mono (tk_ow kp2 nt)
    obtain ⟨m0, hm0, fm0⟩ := F2.loc
    refine wpAny_bind (wpAny_assign_Name (wpAny_storeName_local (s := { s with heap := h'', toks := tk' }) hx hm0 (fun h3 hn3 hs3 => ?_) (by rw [F2.fn]; rfl)))
    obtain ⟨S3, F3, e3⟩ := Fm.storeLocal (h := h'') (t := tk' + 1) (s := { s with heap := h'', toks := tk' }) S2 F2 hx hm0 fm0 hn3 hs3 rv2 hxc
    have e03 : Evo σ0 h0 σ h3 := e2.ow (ow := fun b => b = env.locals) (fun b o q e => (hs3.2 b q).trans e) (fun b q => q ▸ frl)
    have J3 : J (k + 1) h3 := W.frame _ _ _ J' e3.tup fun b o q e => (hs3.2 b fun z => nol (z ▸ q)).trans e
    have pl3 : h3.PlainList acc items := pl2.at fun o e => (hs3.2 _ nal).trans e
    have rl3 : VRs h3 items.toList out := rl2.mono e3.tup
    have nx : ∀ (s4 : Shared) (σ4 : Store) (out' : List V) (items' : Array Value), ok σ4 → CmpL C A env x ifs elt ok ρ R (xs.drop (k + 1)) out' σ4 → St C σ4 s4 → Fm C σ4 s4.heap env (ρ.put x xs[k]) → Evo σ0 h0 σ4 s4.heap → J (k + 1) s4.heap →
        (∀ b, ow b → σ4 b = none) → s4.heap.PlainList acc items' → VRs s4.heap items'.toList out' → σ4 acc = none →
        codeAny C.M A (.compLoop (.ListComp elt [⟨.Name x px, iter, ifs, 0⟩] scope pos) 0 it (.ref acc) env) RR s4 := fun s4 σ4 out' items' hok4 hL4 S4 F4 e4 J4 no4 pl4 rl4 na4 =>
      ih (xs.length - (k + 1)) (by omega) (k + 1) out' σ4 s4 items' rfl hok4 hL4 S4 (F4.less fun z u hz => by
        rw [Rho.get_put, if_neg (fun q => by rw [q, hxr] at hz; cases hz)]; exact hz) e4 J4 no4 pl4 rl4 na4
    refine wpAny_bind (wpAny_mono (Ifs.run hL S3 F3) ?_ fun _ _ z => z.elim)
    rintro b s4 ⟨σ4, q4, S4, e4⟩
    have no4 : ∀ b, ow b → σ4 b = none := fun b q => by
      obtain ⟨o', eo⟩ := W.there _ _ b J3 q
      exact dn σ4 _ _ e4 b o' eo (no b q)
    have na4 : σ4 acc = none := by obtain ⟨n, eo⟩ := pl3; exact dn σ4 _ _ e4 acc _ eo na
    have J4 : J (k + 1) s4.heap := W.frame _ _ _ J3 e4.tup fun b o q e => e4.keep b o e (no b q)
    have pl4 : s4.heap.PlainList acc items := pl3.at fun o e => e4.keep _ _ e na
    have rl4 := rl3.mono e4.tup
    have F4 := F3.evo e4
    cases b with
    | false =>
      simp only [Bool.false_eq_true, if_false] at q4 ⊢
      exact wpAny_pure ⟨rfl, nx s4 σ4 out items q4.1 q4.2 S4 F4 (e03.trans e4) J4 no4 pl4 rl4 na4⟩
    | true =>
      simp only [if_true] at q4 ⊢
      refine wpAny_bind (wpAny_bind (wpAny_mono (q4 s4 S4 F4) ?_ fun _ _ z => z.elim))
      rintro u s5 ⟨z, σ5, ⟨hz, hok5, q5⟩, r5, S5, e5⟩
      have dn5 : ∀ b o, s4.heap.get? b = some o → σ4 b = none → σ5 b = none := fun b o q n => by
        cases z : σ5 b with
        | none => rfl
        | some o2 =>
          rcases e5.dom b o2 z with ⟨o', e'⟩ | e'
          · rw [n] at e'; cases e'
          · rw [q] at e'; cases e'
      have no5 : ∀ b, ow b → σ5 b = none := fun b q => by
        obtain ⟨o', eo⟩ := W.there _ _ b J4 q
        exact dn5 b o' eo (no4 b q)
      have na5 : σ5 acc = none := by obtain ⟨n, eo⟩ := pl4; exact dn5 acc _ eo na4
      have J5 : J (k + 1) s5.heap := W.frame _ _ _ J4 e5.tup fun b o q e => e5.keep b o e (no4 b q)
      have pl5 : s5.heap.PlainList acc items := pl4.at fun o e => e5.keep _ _ e na4
      have rl5 := rl4.mono e5.tup
      have F5 := F4.evo e5
      refine wpAny_bind (wpAny_list_append_plain pl5 (fun h6 pl6 sb6 => ?_) (by have := rl5.length; simp only [Array.length_toList] at this; omega))
      have nt6 : ∀ b o, b = acc → s5.heap.get? b = some o → ¬ Imm o := fun b o q => by
        subst q
        obtain ⟨n, eo⟩ := pl5
        intro z; rw [eo] at z; cases z; exact Imm.not (by simp) (by simp)
      have kp6 : ∀ b o, ¬ b = acc → s5.heap.get? b = some o → h6.get? b = some o := fun b o q e => (sb6.2 b q).trans e
      have S6 : St C σ5 { s5 with heap := h6, toks := s5.toks } := S5.ow (ow := fun b => b = acc) kp6 nt6 (fun b q => q ▸ na5) (fun b q => q ▸ frba)
      have F6 : Fm C σ5 h6 env (ρ.put x xs[k]) := F5.ow (ow := fun b => b = acc) kp6 nt6 (fun b q => q ▸ nao)
      have tk6 : TupKeep s5.heap h6 := tk_ow (ow := fun b => b = acc) kp6 nt6
      refine wpAny_pure (wpAny_pure ⟨rfl, nx _ σ5 (out ++ [z]) (items.push u) hok5 q5 S6 F6 (((e03.trans e4).trans e5).ow (ow := fun b => b = acc) kp6 (fun b q => q ▸ fra)) ?_ no5 pl6 ?_ na5⟩)
      · exact W.frame _ _ _ J5 tk6 fun b o q e => kp6 b o (fun z => nac (z ▸ q)) e
      · simp only [Array.toList_push]
        exact (rl5.mono tk6).append (.cons (r5.mono tk6) .nil)
end

end Mine

set_option autoImplicit false
set_option linter.unusedVariables false
namespace Mine
open PySem PySem.W

section
variable {C : Cx} {A : Around} {env : Env} {ρ : Rho} {σ : Store} {X : XP} {s : Shared}

/-- what an iterator's making gives -/
def SrcP (C : Cx) (A : Around) (target : Expr) (σ : Store) (h : Heap) (Q : List V → (Store → Prop) → Store → Prop) (it : Value) (s2 : Shared) : Prop :=
  ∃ xs ok σ' ow J, Q xs ok σ' ∧ Itr C A target it ow J ok xs ∧ ok σ' ∧ St C σ' s2 ∧ Evo σ h σ' s2.heap ∧ (∀ b, ow b → h.get? b = none ∧ σ' b = none) ∧ J 0 s2.heap
def Src (C : Cx) (A : Around) (env : Env) (target iter : Expr) (ρ : Rho) (σ : Store) (Q : List V → (Store → Prop) → Store → Prop) (X : XP) : Prop :=
  ∀ s, St C σ s → Fm C σ s.heap env ρ → wpAny C.M A (eval iter env) (fun x s1 => wpAny C.M A (pyIter x) (SrcP C A target σ s.heap Q) X s1) X s

theorem Fm.own_there {h : Heap} (F : Fm C σ h env ρ) {b : Addr} (w : Own env b) : ∃ o, h.get? b = some o := by
  rcases w with rfl | ⟨x, e⟩
  · obtain ⟨m, ⟨o, _, _, ho, _⟩, _⟩ := F.loc
    exact ⟨o, ho⟩
  · obtain ⟨ov, ⟨o, ho, _⟩, _⟩ := F.cell x b e
    exact ⟨o, ho⟩

theorem Ex.for {target iter : Expr} {body : List Stmt} {pos : Pos} {Q : FV → Rho → Store → Prop}
    (h : Src C A env target iter ρ σ (fun xs ok σ1 => ForL C A env target body ok Q xs ρ σ1) X)
    (hs : ∀ x, foldedSetIterable iter env x = pure x := by intro _; kernel_rfl) : Ex C A env (.For target iter body [] pos) ρ σ Q X := by
  intro s S F
  refine wpAny_For (wpAny_mono (h s S F) (fun x s1 h1 => wpAny_mono h1 ?_ fun _ _ z => z) fun _ _ z => z) hs
  rintro it s2 ⟨xs, ok, σ', ow, J, q, W, hok, S2, e2, fr, hJ⟩
  refine codeAny_mono (for_run (σ0 := σ) (h0 := s.heap) W (fun b w => (fr b w).1) (fun b w z => ?_) (fun b w => ?_) (fun b w => (fr b w).2) S2 (F.evo e2) (e2.evoF F.own) hJ hok q) ?_
  · obtain ⟨o, e⟩ := F.own_there z
    rw [(fr b w).1] at e; cases e
  · cases z : C.h₀.get? b with
    | none => rfl
    | some o => have := S.base _ _ z; rw [(fr b w).1] at this; cases this
  · rintro (e | f) s' z
    · exact z.elim
    · exact z

/- sources -/
/-- iterating over a value gives these items -/
def ItV (C : Cx) (A : Around) (target : Expr) (x : V) (σ : Store) (xs : List V) (ok : Store → Prop) : Prop :=
  ok σ ∧ ∀ s v (Q : Value → Shared → Prop) (X : XP), St C σ s → VR s.heap v x → (∀ it ow J h' tk, Itr C A target it ow J ok xs → (∀ b o, s.heap.get? b = some o → h'.get? b = some o) → (∀ b, ow b → s.heap.objs.size ≤ b) → J 0 h' →
    Q it { s with heap := h', toks := tk }) → wpAny C.M A (pyIter v) Q X s

theorem St.fresh' (S : St C σ s) {b : Addr} (hb : s.heap.objs.size ≤ b) : σ b = none := by
  cases q : σ b with
  | none => rfl
  | some o =>
    obtain ⟨y, hy, _⟩ := (S.rep _ _ q).isSome
    exact absurd (Heap.lt_size hy) (Nat.not_lt.mpr hb)
theorem get?_fresh' {h : Heap} {b : Addr} (hb : h.objs.size ≤ b) : h.get? b = none := by
  cases q : h.get? b with
  | none => rfl
  | some o => exact absurd (Heap.lt_size q) (Nat.not_lt.mpr hb)
theorem Evo.fresh {σ' : Store} {h h' : Heap} {b : Addr} (S : St C σ' s) (e : Evo σ h σ' s.heap) (hb : s.heap.objs.size ≤ b) : h.get? b = none := by
  cases q : h.get? b with
  | none => rfl
  | some o =>
    have f := get?_fresh' hb
    cases z : σ b with
    | none => rw [e.keep _ _ q z] at f; cases f
    | some o' =>
      obtain ⟨o'', e''⟩ := e.mono _ _ z
      rw [S.fresh' hb] at e''; cases e''

theorem Src.of {target iter : Expr} {Q : List V → (Store → Prop) → Store → Prop} (h : Ev C A env iter ρ σ (fun x σ1 => ∃ xs ok, ItV C A target x σ1 xs ok ∧ Q xs ok σ1) X) : Src C A env target iter ρ σ Q X := by
  intro s S F
  refine wpAny_mono (h s S F) ?_ fun _ _ z => z
  rintro v s1 ⟨x, σ1, ⟨xs, ok, ⟨hok, hi⟩, q⟩, r1, S1, e1⟩
  refine hi s1 v _ _ S1 r1 fun it ow J h' tk W kp fr hJ => ?_
  exact ⟨xs, ok, σ1, ow, J, q, W, hok, S1.ext kp, e1.trans (.ext kp), fun b w => ⟨Evo.fresh (h' := s1.heap) S1 e1 (fr b w), S1.fresh' (fr b w)⟩, hJ⟩

theorem ItV.list {target : Expr} {l : Addr} {xs : List V} (hh : A.handled = none) (hl : LstAt C σ l xs) : ItV C A target (.ref l) σ xs (fun σ => LstAt C σ l xs) := by
  refine ⟨hl, fun s v Q X S r hQ => ?_⟩
  cases r
  obtain ⟨items, pl, hr⟩ := hl.raw S
  refine wpAny_pyIter_list pl ?_
  have hlt : l < s.heap.objs.size := by obtain ⟨o, e, _⟩ := pl; exact Heap.lt_size e
  exact hQ _ _ _ _ s.toks (Itr.list hh (Nat.ne_of_gt hlt)) (fun b o e => Heap.get?_push_of_some _ e) (fun b w => w ▸ Nat.le_refl _) ⟨_, Heap.get?_push_size _ rfl, rfl, rfl⟩

theorem Itr.tup {target : Expr} {it t : Addr} {items : Array Value} {xs : List V} {n : Nat} (hh : A.handled = none) (hne : it ≠ t) :
    Itr C A target (.ref it) (fun b => b = it) (fun k h => h.IsTupleIter it t k ∧ h.get? t = some (tupObj items n) ∧ VRs h items.toList xs) (fun _ => True) xs where
  frame := fun k h h' ⟨⟨o, e, r⟩, a, b⟩ tk kp => ⟨⟨o, kp it o rfl e, r⟩, tk _ _ (.tup _ _) a, b.mono tk⟩
  notTup := fun k h b o' ⟨⟨o, e, c, _⟩, _⟩ q z => by subst q; rw [e] at z; cases z; exact Imm.not (by rw [c]; simp) (by rw [c]; simp)
  there := fun k h b ⟨⟨o, e, _⟩, _⟩ q => by subst q; exact ⟨o, e⟩
  more := fun k σ s x Q X S hok ⟨hJ, ha, hr⟩ hx no hQ => by
    obtain ⟨u, hu, ru⟩ := hr.get hx
    have it' : s.heap.IsTuple t items := ⟨_, ha, rfl, n, rfl⟩
    refine wpAny_pyNext_tuple_item hJ it' (by simpa using hu) fun h' J' sb => ?_
    have kp : ∀ b o, ¬ b = it → s.heap.get? b = some o → h'.get? b = some o := fun b o q e => (sb.2 b q).trans e
    have tk : TupKeep s.heap h' := tk_ow (ow := fun b => b = it) kp fun b o' q => by
      subst q
      obtain ⟨o, e, c, _⟩ := hJ
      intro z; rw [e] at z; cases z; exact Imm.not (by rw [c]; simp) (by rw [c]; simp)
    refine hQ u h' s.toks (ru.mono tk) kp (fun b o' q z => ?_) (fun Q' X' hq => by
      obtain ⟨o, e, c, _⟩ := id J'
      exact letGo_plain (s := { s with heap := h' }) e c (by decide) (hq h' s.toks ⟨J', tk _ _ (.tup _ _) ha, hr.mono tk⟩ fun _ _ _ e => e))
    subst q
    obtain ⟨o, e, c, _⟩ := J'
    rw [e] at z; cases z; exact Imm.not (by rw [c]; simp) (by rw [c]; simp)
  self := fun k s Q X hJ hq => wpAny_pyIter_tupleiter hJ.1 hq
  done := fun k σ s Q X S hok ⟨hJ, ha, hr⟩ hx no hQ => by
    have hn : items[k]? = none := by
      have h1 := List.getElem?_eq_none_iff.mp hx
      have h2 := hr.length
      simp only [Array.length_toList] at h2
      exact Array.getElem?_eq_none_iff.mpr (by omega)
    exact wpAny_pyNext_tuple_end hh hJ ⟨_, ha, rfl, n, rfl⟩ hn fun h' kp => hQ h' s.toks fun b o q e => kp b o q e
theorem ItV.tup {target : Expr} {xs : List V} (hh : A.handled = none) : ItV C A target (.tup xs) σ xs (fun _ => True) := by
  refine ⟨trivial, fun s v Q X S r hQ => ?_⟩
  cases r with
  | @tup a items n _ ha hr =>
    refine wpAny_pyIter_tuple (items := items) ⟨_, ha, rfl, n, rfl⟩ ?_
    have hlt : a < s.heap.objs.size := Heap.lt_size ha
    exact hQ _ _ _ _ s.toks (Itr.tup (t := a) (items := items) (n := n) hh (Nat.ne_of_gt hlt)) (fun b o e => Heap.get?_push_of_some _ e) (fun b w => w ▸ Nat.le_refl _) ⟨⟨_, Heap.get?_push_size _ rfl, rfl, rfl⟩, Heap.get?_push_of_some _ ha, hr.push⟩

def irange (a b : Int) : List V := (List.range (b - a).toNat).map fun (i : Nat) => V.int (a + (i : Int))
theorem Itr.rng {target : Expr} {it : Addr} {a b : Int} (hh : A.handled = none) :
    Itr C A target (.ref it) (fun b => b = it) (fun k h => IsRangeIter h it (a + k) (((b - a).toNat : Int) - k) 1) (fun _ => True) (irange a b) where
  frame := fun k h h' e _ kp => kp it _ rfl e
  notTup := fun k h b o' e q z => by subst q; rw [e] at z; cases z; exact Imm.not (by simp) (by simp)
  there := fun k h b e q => by subst q; exact ⟨_, e⟩
  more := fun k σ s x Q X S hok hJ hx no hQ => by
    obtain ⟨hk, rfl⟩ := List.getElem?_eq_some_iff.mp hx
    have hk' : k < (b - a).toNat := by simpa [irange] using hk
    refine wpAny_pyNext_range_item hJ (by omega) fun h' J' sb => ?_
    refine hQ _ h' (s.toks + 1) ?_ (fun b o q e => (sb.2 b q).trans e) (fun b o' q z => ?_) (fun Q' X' hq => by
      exact letGo_plain (s := { s with heap := h', toks := s.toks + 1 }) J' rfl (by decide) (hq h' (s.toks + 1) (by
        have e1 : a + (k : Int) + 1 = a + ((k + 1 : Nat) : Int) := by omega
        have e2 : ((b - a).toNat : Int) - k - 1 = ((b - a).toNat : Int) - ((k + 1 : Nat) : Int) := by omega
        rw [e1, e2] at J'; exact J') fun _ _ _ e => e))
    · simp only [irange, List.getElem_map, List.getElem_range]; exact .int _ _
    · subst q; rw [J'] at z; cases z; exact Imm.not (by simp) (by simp)
  self := fun k s Q X hJ hq => wpAny_pyIter_rangeiter hJ hq
  done := fun k σ s Q X S hok hJ hx no hQ => by
    have h1 := List.getElem?_eq_none_iff.mp hx
    simp only [irange, List.length_map, List.length_range] at h1
    exact wpAny_pyNext_range_end hh hJ (by omega) fun h' kp => hQ h' s.toks fun b o q e => kp b o q e
theorem ItV.rng {target : Expr} {a b : Int} (hh : A.handled = none) (ha : -(2 ^ 62) ≤ a) (ha' : a < 2 ^ 62) (hb : -(2 ^ 62) ≤ b) (hb' : b < 2 ^ 62) : ItV C A target (.rng a b) σ (irange a b) (fun _ => True) := by
  refine ⟨trivial, fun s v Q X S r hQ => ?_⟩
  cases r with
  | rng hr =>
    refine wpAny_pyIter_range hr (small_one ha ha' hb hb') ?_
    refine hQ _ _ _ _ s.toks (Itr.rng (a := a) (b := b) hh) (fun b o e => Heap.get?_push_of_some _ e) (fun b w => w ▸ Nat.le_refl _) ?_
    have e2 : Builtin.Range.rangeSize a b 1 = ((b - a).toNat : Int) := by rw [rangeSize_one]; split <;> omega
    rw [e2]
    simpa using Heap.get?_push_size s.heap (o := { cls := .type "range_iterator", data := .fields #[rawInt a, rawInt ((b - a).toNat : Int), rawInt 1] }) rfl
end

end Mine

set_option autoImplicit false
set_option linter.unusedVariables false
namespace Mine
open PySem PySem.W

/-- the cells that a comprehension takes along -/
def clOf (cells : List (Str × Addr)) : List (Str × NameKind) → List (Str × Addr) → List (Str × Addr)
  | [], acc => acc
  | (n, k) :: r, acc => if k == .free then clOf cells r ((n, (cells.lookup n).getD 0) :: acc) else clOf cells r acc

theorem closure_go {env : Env} : ∀ (names : List (Str × NameKind)) (acc : List (Str × Addr)), (names.all fun p => p.2 != .free || (env.cells.lookup p.1).isSome) = true →
    (forIn names acc fun (x : Str × NameKind) (r : List (Str × Addr)) => (if x.2 == NameKind.free then (do let c ← cellOf env x.1; pure (ForInStep.yield ((x.1, c) :: r))) else pure (ForInStep.yield r) : Sem (ForInStep (List (Str × Addr))))) = pure (clOf env.cells names acc)
  | [], acc, _ => rfl
  | (n, k) :: r, acc, h => by
    simp only [List.all_cons, Bool.and_eq_true] at h
    rw [List.forIn_cons]
    unfold clOf
    by_cases q : (k == .free) = true
    · have hk : k = .free := by cases k <;> first | rfl | cases q
      subst hk
      have h1 : (env.cells.lookup n).isSome = true := by simpa using h.1
      obtain ⟨c, hc⟩ := Option.isSome_iff_exists.mp h1
      have e : cellOf env n = pure c := by unfold cellOf; rw [hc]
      simp only [q, if_true, e, pure_bind, hc, Option.getD_some]
      exact closure_go r _ h.2
    · simp only [q, if_false, pure_bind]
      exact closure_go r _ h.2
theorem closureFor_mine {env : Env} {scope : Scope} (h : (scope.names.all fun p => p.2 != .free || (env.cells.lookup p.1).isSome) = true) : closureFor scope env = pure (clOf env.cells scope.names []) := by
  unfold closureFor
  have := closure_go (env := env) scope.names [] h
  simp only [bind_pure]
  exact this

theorem clOf_mem {cells : List (Str × Addr)} : ∀ {names : List (Str × NameKind)} {acc : List (Str × Addr)} {x : Str} {c : Addr}, (x, c) ∈ clOf cells names acc → (x, c) ∈ acc ∨ ((x, NameKind.free) ∈ names ∧ c = (cells.lookup x).getD 0)
  | [], _, _, _, h => .inl h
  | (n, k) :: r, acc, x, c, h => by
    unfold clOf at h
    split at h
    · rename_i q
      have hk : k = .free := by cases k <;> first | rfl | cases q
      subst hk
      rcases clOf_mem h with z | ⟨z, e⟩
      · rcases List.mem_cons.mp z with z | z
        · cases z; exact .inr ⟨.head _, rfl⟩
        · exact .inl z
      · exact .inr ⟨.tail _ z, e⟩
    · rcases clOf_mem h with z | ⟨z, e⟩
      · exact .inl z
      · exact .inr ⟨.tail _ z, e⟩

/-- the names that a comprehension takes along, with their values -/
inductive Capt (ρ : Rho) : List (Str × NameKind) → Rho → Prop
  | nil : Capt ρ [] []
  | skip {n : Str} {k : NameKind} {r : List (Str × NameKind)} {ρc : Rho} : k ≠ .free → Capt ρ r ρc → Capt ρ ((n, k) :: r) ρc
  | take {n : Str} {v : V} {r : List (Str × NameKind)} {ρc : Rho} : ρ.get n = some v → Capt ρ r ρc → Capt ρ ((n, .free) :: r) ((n, v) :: ρc)
theorem Capt.get {ρ : Rho} {x : Str} {v : V} : ∀ {names : List (Str × NameKind)} {ρc : Rho}, Capt ρ names ρc → ρc.get x = some v → ρ.get x = some v ∧ (x, NameKind.free) ∈ names
  | _, _, .nil, h => by cases h
  | _, _, .skip _ c, h => by
    obtain ⟨a, b⟩ := c.get h
    exact ⟨a, .tail _ b⟩
  | _, _, .take (n := n) (v := u) (ρc := ρc) e c, h => by
    have h' : (if x = n then some u else Rho.get ρc x) = some v := h
    by_cases q : x = n
    · subst q; rw [if_pos rfl] at h'; cases h'; exact ⟨e, .head _⟩
    · rw [if_neg q] at h'
      obtain ⟨a, b⟩ := c.get h'
      exact ⟨a, .tail _ b⟩

def compOk (scope : Scope) : Bool := scope.names.all fun p => p.2 != .cell && (p.2 != .free || scope.names.lookup p.1 == some .free) && (p.2 != .local || scope.names.lookup p.1 == some .local)

theorem lookup_map_kind {g : Str → NameKind → NameKind} {x : Str} : ∀ (names : List (Str × NameKind)), (names.map fun (n, k) => (n, g n k)).lookup x = (names.lookup x).map (g x)
  | [] => rfl
  | (n, k) :: r => by
    simp only [List.map_cons, List.lookup_cons]
    cases q : x == n with
    | true => rw [beq_iff_eq.mp q]; rfl
    | false => exact lookup_map_kind r
theorem relabel_lookup {scope : Scope} {env : Env} {x : Str} : (relabel scope env).names.lookup x = (scope.names.lookup x).map fun k => if (k == .free && env.scope.kind == .function && env.kindOf x == some .cell) then .cell else k := by
  have e : (relabel scope env).names = scope.names.map fun (n, k) => (n, (fun (n : Str) (k : NameKind) => if (k == .free && env.scope.kind == .function && env.kindOf n == some .cell) then NameKind.cell else k) n k) := by
    unfold relabel
    refine List.map_congr_left fun p _ => ?_
    obtain ⟨n, k⟩ := p
    dsimp only
    split <;> rfl
  rw [e]
  exact lookup_map_kind (g := fun n k => if (k == .free && env.scope.kind == .function && env.kindOf n == some .cell) then NameKind.cell else k) scope.names

section
variable {C : Cx} {A : Around} {env : Env} {ρ : Rho} {σ : Store} {X : XP} {s : Shared}

theorem St.adopt {a : Addr} {o : O} {σ0 : Store} {h0 : Heap} (S : St C σ s) (r : Rep C s.heap a o) (hn : C.n₀ ≤ a) (e : Evo σ0 h0 σ s.heap) (hf : h0.get? a = none) : St C (σ.upd a o) s ∧ Evo σ0 h0 (σ.upd a o) s.heap := by
  refine ⟨⟨S.base, fun b x hx => ?_, fun b x hx => ?_, S.gens, S.os⟩, e.keep, fun b x hx => ?_, fun b x hx => ?_, e.tup⟩
  · by_cases q : b = a
    · subst q; rw [Store.upd_self] at hx; cases hx; exact r
    · rw [Store.upd_ne _ _ q] at hx; exact S.rep b x hx
  · by_cases q : b = a
    · subst q; exact hn
    · rw [Store.upd_ne _ _ q] at hx; exact S.above b x hx
  · by_cases q : b = a
    · subst q; exact .inr hf
    · rw [Store.upd_ne _ _ q] at hx; exact e.dom b x hx
  · obtain ⟨o', h'⟩ := e.mono b x hx
    by_cases q : b = a
    · subst q; exact ⟨_, Store.upd_self ..⟩
    · exact ⟨o', by rw [Store.upd_ne _ _ q]; exact h'⟩

/-- a comprehension, whatever is done with its list -/
theorem comp_run {x : Str} {px pos : Pos} {elt iter : Expr} {ifs : List Expr} {scope : Scope} {ρc : Rho} {use : Option (Value → Sem Unit)} {Qr : Value → Shared → Prop} {R : List V → Store → Prop}
    (hfree : (scope.names.all fun p => p.2 != .free || (env.cells.lookup p.1).isSome) = true) (hck : compOk scope = true) (hk : scope.kind = .function) (hx : scope.names.lookup x = some .local) (cap : Capt ρ scope.names ρc)
    (hs : ∀ x, foldedSetIterable iter env x = pure x) (S : St C σ s) (F : Fm C σ s.heap env ρ)
    (h : Src C A env (.Name x px) iter ρ σ (fun xs ok σ1 => ∀ L, CmpL C A (compEnvC scope (clOf env.cells scope.names []) L env) x ifs elt ok ρc R xs [] σ1) X)
    (fin : ∀ acc L σ2 s2 out items, R out σ2 → St C σ2 s2 → Evo σ s.heap σ2 s2.heap → s2.heap.PlainList acc items → VRs s2.heap items.toList out → σ2 acc = none → (∃ m, s2.heap.Ns L m) → σ2 L = none → C.n₀ ≤ acc → C.n₀ ≤ L → acc ≠ L → s.heap.get? acc = none → s.heap.get? L = none →
      compPost C.M A X use Qr (.ref acc) L (.ok .next) s2) :
    wpAny C.M A (comprehension (.ListComp elt [⟨.Name x px, iter, ifs, 0⟩] scope pos) scope env (firstIterPos [⟨.Name x px, iter, ifs, 0⟩] pos) (newList []) false (eval iter env) use) Qr X s := by
  have names_of : ∀ p ∈ scope.names, p.2 ≠ .cell ∧ (p.2 = .free → scope.names.lookup p.1 = some .free) ∧ (p.2 = .local → scope.names.lookup p.1 = some .local) := fun p hp => by
    have := List.all_eq_true.mp hck p hp
    simp only [Bool.and_eq_true, bne_iff_ne, ne_eq, Bool.or_eq_true, beq_iff_eq] at this
    refine ⟨this.1.1, fun e => ?_, fun e => ?_⟩
    · rcases this.1.2 with z | z
      · exact absurd e z
      · exact z
    · rcases this.2 with z | z
      · exact absurd e z
      · exact z
  refine wpAny_comprehension_free (cl := clOf env.cells scope.names []) rfl hs (closureFor_mine hfree) hk (fun p hp e => (names_of p hp).2.2 e) ?_
  refine wpAny_mono (h s S F) (fun v s1 h1 => wpAny_mono h1 ?_ fun _ _ z => z) fun _ _ z => z
  rintro it s2 ⟨xs, ok, σ', ow, J, q, W, hok, S2, e2, fr, hJ⟩
  refine wpAny_newObj_type (wpAny_newFunctionEnv (fun p hp => (names_of p hp).1) (by intro y hy; simp at hy) (fun h₁ hns₁ hsb₁ => ?_) hk)
  dsimp only at hns₁ hsb₁ ⊢
  generalize hH2 : s2.heap.push { cls := .type "list", dict := none, data := .seq ([] : List Value).toArray } = H2 at hns₁ hsb₁ ⊢
  have hC : H2.objs.size = s2.heap.objs.size + 1 := by rw [← hH2, push_size]
  have hDC : s2.heap.objs.size ≠ H2.objs.size := by rw [hC]; exact Nat.ne_of_lt (Nat.lt_succ_self _)
  have old : ∀ b o, s2.heap.get? b = some o → h₁.get? b = some o := fun b o e =>
    hsb₁.extBut b o (by rw [hC]; exact Nat.ne_of_lt (Nat.lt_succ_of_lt (Heap.lt_size e))) (Heap.get?_push_of_some _ (hH2 ▸ Heap.get?_push_of_some _ e))
  have hacc : h₁.PlainList s2.heap.objs.size #[] := ⟨_, hsb₁.extBut _ _ hDC (Heap.get?_push_of_some _ (hH2 ▸ Heap.get?_push_size _ rfl))⟩
  have F2 := F.evo e2
  have e12 : Evo σ' s2.heap σ' h₁ := .ext old
  have fresh2 : ∀ b, s2.heap.objs.size ≤ b → s.heap.get? b = none := fun b hb => Evo.fresh (h' := s2.heap) S2 e2 hb
  have hLle : s2.heap.objs.size ≤ H2.objs.size := by rw [hC]; exact Nat.le_succ _
  have cl_of : ∀ y c, (clOf env.cells scope.names []).lookup y = some c → env.cells.lookup y = some c ∧ scope.names.lookup y = some .free := fun y c hy => by
    rcases clOf_mem (mem_of_lookup hy) with z | ⟨z, e⟩
    · cases z
    · have h1 := List.all_eq_true.mp hfree _ z
      have h2 : (env.cells.lookup y).isSome = true := by simpa using h1
      obtain ⟨c', hc'⟩ := Option.isSome_iff_exists.mp h2
      rw [hc'] at e
      exact ⟨by rw [hc', e]; rfl, (names_of _ z).2.1 rfl⟩
  have S3 : St C σ' { s2 with heap := h₁, toks := s2.toks } := S2.ext old
  have F3 : Fm C σ' h₁ (compEnvC scope (clOf env.cells scope.names []) H2.objs.size env) ρc := by
    refine ⟨by show (relabel scope env).kind = _; exact hk, ⟨_, hns₁, fun y v hy hv => ?_⟩, S2.fresh' hLle, Nat.le_trans S2.size hLle, fun y c hy => ?_, fun y c hy => ?_, fun y z c hy hz => ?_⟩
    · exfalso
      obtain ⟨_, m⟩ := cap.get hv
      have h1 := (names_of _ m).2.1 rfl
      have h2 : (relabel scope env).names.lookup y = some .local := hy
      rw [relabel_lookup, h1] at h2
      simp only [Option.map_some, Option.some.injEq] at h2
      split at h2 <;> cases h2
    · obtain ⟨h1, _⟩ := cl_of y c hy
      obtain ⟨ov, a, b⟩ := (F2.evo e12).cell y c h1
      exact ⟨ov, a, fun v hv => b v (cap.get hv).1⟩
    · obtain ⟨h1, _⟩ := cl_of y c hy
      obtain ⟨n1, n2, n3⟩ := F2.ncell y c h1
      refine ⟨n1, ?_, n3⟩
      obtain ⟨ov, a, b⟩ := F2.cell y c h1
      exact Nat.ne_of_lt (Nat.lt_of_lt_of_le a.lt hLle)
    · exact F.apart y z c (cl_of y c hy).1 (cl_of z c hz).1
  have ownc : ∀ b, Own (compEnvC scope (clOf env.cells scope.names []) H2.objs.size env) b → b = H2.objs.size ∨ Own env b := by
    rintro b (z | ⟨y, z⟩)
    · exact .inl z
    · exact .inr (.inr ⟨y, (cl_of y b z).1⟩)
  have own_lt : ∀ b, Own env b → b < s2.heap.objs.size := fun b w => by
    obtain ⟨o, e⟩ := F2.own_there w
    exact Heap.lt_size e
  have owlt : ∀ b, ow b → b < s2.heap.objs.size := fun b w => by
    obtain ⟨o, e⟩ := W.there 0 _ b hJ w
    exact Heap.lt_size e
  have loop : ∀ s₃ : Shared, s₃ = { s2 with heap := h₁, toks := s2.toks + ([] : List (Str × Value)).length } →
      codeAny C.M A (.compLoop (.ListComp elt [⟨.Name x px, iter, ifs, 0⟩] scope pos) 0 it (.ref s2.heap.objs.size) (compEnvC scope (clOf env.cells scope.names []) H2.objs.size env))
        (compPost C.M A X use Qr (.ref s2.heap.objs.size) H2.objs.size) s₃ := by
    rintro s₃ rfl
    refine comp_turns (σ0 := σ) (h0 := s.heap) (R := R) W ?_ ?_ ?_ (fun b w => (fr b w).1) (fresh2 _ (Nat.le_refl _)) (fresh2 _ hLle) (fun b w => ?_) ?_ (fun w => Nat.lt_irrefl _ (owlt _ w)) hDC
      (fun w => absurd (owlt _ w) (Nat.not_lt.mpr hLle)) (fun b w z => ?_) (fun z => ?_) ?_ _ 0 [] σ' _ #[] rfl hok (by simpa using q H2.objs.size) S3 F3 (e2.trans e12) (W.frame _ _ _ hJ e12.tup fun b o _ e => old b o e)
      (fun b w => (fr b w).2) hacc .nil (S2.fresh' (Nat.le_refl _))
    · exact lookup_relabel_local hx
    · cases z : (clOf env.cells scope.names []).lookup x with
      | none => exact z
      | some c => have := (cl_of x c z).2; rw [hx] at this; cases this
    · cases z : ρc.get x with
      | none => rfl
      | some v => have := (names_of _ (cap.get z).2).2.1 rfl; rw [hx] at this; cases this
    · cases z : C.h₀.get? b with
      | none => rfl
      | some o => have := S.base _ _ z; rw [(fr b w).1] at this; cases this
    · cases z : C.h₀.get? s2.heap.objs.size with
      | none => rfl
      | some o => have := S.base _ _ z; rw [fresh2 _ (Nat.le_refl _)] at this; cases this
    · rcases ownc b z with y | y
      · exact absurd (owlt _ w) (by rw [y]; exact Nat.not_lt.mpr hLle)
      · obtain ⟨o, e⟩ := F.own_there y
        rw [(fr b w).1] at e; cases e
    · rcases ownc _ z with y | y
      · exact hDC y
      · exact Nat.lt_irrefl _ (own_lt _ y)
    · intro out σ2 s4 items hR S4 e4 pl4 r4 na4 ns4 nl4
      exact fin _ _ σ2 s4 out items hR S4 e4 pl4 r4 na4 ns4 nl4 S2.size (Nat.le_trans S2.size hLle) hDC (fresh2 _ (Nat.le_refl _)) (fresh2 _ hLle)
  exact codeAny_compStart_list (loop _ rfl) (W.self 0 _ _ _ (W.frame _ _ _ hJ e12.tup fun b o _ e => old b o e) (loop _ rfl))

theorem Ev.comp {x : Str} {px pos : Pos} {elt iter : Expr} {ifs : List Expr} {scope : Scope} {ρc : Rho} {Q : V → Store → Prop}
    (hfree : (scope.names.all fun p => p.2 != .free || (env.cells.lookup p.1).isSome) = true) (hck : compOk scope = true) (hk : scope.kind = .function) (hx : scope.names.lookup x = some .local) (cap : Capt ρ scope.names ρc)
    (h : Src C A env (.Name x px) iter ρ σ (fun xs ok σ1 => ∀ L, CmpL C A (compEnvC scope (clOf env.cells scope.names []) L env) x ifs elt ok ρc (fun out σ2 => ∀ a, σ2 a = Option.none → Q (.ref a) (σ2.upd a (.list out))) xs [] σ1) X)
    (hs : ∀ x, foldedSetIterable iter env x = Pure.pure x := by intro _; kernel_rfl) : Ev C A env (.ListComp elt [⟨.Name x px, iter, ifs, 0⟩] scope pos) ρ σ Q X := by
  intro s S F
  rw [eval_ListComp]
  refine comp_run hfree hck hk hx cap hs S F h ?_
  intro acc L σ2 s2 out items q S2 e2 pl2 r2 na2 ⟨m, hm⟩ nl2 n1 n2 hne fa fl
  refine ⟨m, hm, fun h' sb => ?_⟩
  have kp : ∀ b o, ¬ b = L → s2.heap.get? b = some o → h'.get? b = some o := fun b o w e => (sb.2 b w).trans e
  have nt : ∀ b o, b = L → s2.heap.get? b = some o → ¬ Imm o := fun b o w z => by
    subst w
    obtain ⟨o', es, ep, ho, hd, _⟩ := hm
    rw [ho] at z; cases z; exact Imm.notDict hd
  have S3 : St C σ2 { s2 with heap := h', toks := s2.toks } := S2.ow (ow := fun b => b = L) kp nt (fun b w => w ▸ nl2) (fun b w => by
    subst w
    cases z : C.h₀.get? b with
    | none => rfl
    | some o => exact absurd (C.low _ _ z) (Nat.not_lt.mpr n2))
  have e3 : Evo σ s.heap σ2 h' := e2.ow (ow := fun b => b = L) kp (fun b w => w ▸ fl)
  obtain ⟨S4, e4⟩ := S3.adopt (a := acc) (o := .list out) ⟨items, pl2.at fun o e => kp _ _ hne e, r2.mono (tk_ow (ow := fun b => b = L) kp nt)⟩ n1 e3 fa
  exact ⟨.ref acc, _, q acc na2, .ref _, S4, e4⟩

/-- a comprehension stored into a name of the frame's own straight away -/
theorem Ex.assignComp {x y : Str} {px py pos spos : Pos} {elt iter : Expr} {ifs : List Expr} {scope : Scope} {ρc : Rho} {Q : FV → Rho → Store → Prop}
    (hfree : (scope.names.all fun p => p.2 != .free || (env.cells.lookup p.1).isSome) = true) (hck : compOk scope = true) (hk : scope.kind = .function) (hx : scope.names.lookup x = some .local) (cap : Capt ρ scope.names ρc)
    (hy : env.kindOf y = some .local) (hyc : env.cells.lookup y = none)
    (h : Src C A env (.Name x px) iter ρ σ (fun xs ok σ1 => ∀ L, CmpL C A (compEnvC scope (clOf env.cells scope.names []) L env) x ifs elt ok ρc (fun out σ2 => ∀ a, σ2 a = none → Q .next (ρ.put y (.ref a)) (σ2.upd a (.list out))) xs [] σ1) X)
    (hsw : swapsWith (.ListComp elt [⟨.Name x px, iter, ifs, 0⟩] scope pos) (some (.Name y py)) spos.line env = pure true := by kernel_rfl)
    (hs : ∀ x, foldedSetIterable iter env x = pure x := by intro _; kernel_rfl) : Ex C A env (.Assign [.Name y py] (.ListComp elt [⟨.Name x px, iter, ifs, 0⟩] scope pos) spos) ρ σ Q X := by
  intro s S F
  rw [exec_Assign_Name_used _ _ _ _ hsw]
  refine wpAny_bind (wpAny_standAt (wpAny_bind ?_))
  rw [arm_evalThenUse_ListComp]
  refine wpAny_bind ?_
  refine comp_run (Qr := fun _ s' => wpAny C.M A (pure PUnit.unit) (fun _ s' => wpAny C.M A (pure Flow.next) (SP C env σ s.heap Q) X s') X s') hfree hck hk hx cap hs S F h ?_
  intro acc L σ2 s2 out items q S2 e2 pl2 r2 na2 ⟨m, hm⟩ nl2 n1 n2 hne fa fl
  have F2 := F.evo e2
  obtain ⟨m2, hm2, f2⟩ := F2.loc
  have hLe : L ≠ env.locals := fun z => by
    obtain ⟨o, e⟩ := F.own_there (.inl rfl)
    rw [z, e] at fl; cases fl
  have hAe : acc ≠ env.locals := fun z => by
    obtain ⟨o, e⟩ := F.own_there (.inl rfl)
    rw [z, e] at fa; cases fa
  obtain ⟨S4, e4⟩ := S2.adopt (a := acc) (o := .list out) ⟨items, pl2, r2⟩ n1 e2 fa
  have F4 : Fm C (σ2.upd acc (.list out)) s2.heap env ρ := F.evo e4
  refine wpAny_assign_Name (wpAny_storeName_local hy hm2 (fun h3 hn3 hs3 => ?_) (by rw [F2.fn]; rfl))
  obtain ⟨S5, F5, e5⟩ := Fm.storeLocal (h := s2.heap) (t := s2.toks + 1) S4 F4 hy hm2 f2 hn3 hs3 (VR.ref acc) hyc
  have hm3 : h3.Ns L m := hm.sameBut hs3 hLe
  refine ⟨m, hm3, fun h' sb => ?_⟩
  have kp : ∀ b o, ¬ b = L → h3.get? b = some o → h'.get? b = some o := fun b o w e => (sb.2 b w).trans e
  have nt : ∀ b o, b = L → h3.get? b = some o → ¬ Imm o := fun b o w z => by
    subst w
    obtain ⟨o', es, ep, ho, hd, _⟩ := hm3
    rw [ho] at z; cases z; exact Imm.notDict hd
  have nl4 : (σ2.upd acc (.list out)) L = none := by rw [Store.upd_ne _ _ hne.symm]; exact nl2
  have S6 : St C (σ2.upd acc (.list out)) { s2 with heap := h', toks := s2.toks + 1 } := St.ow (s := { s2 with heap := h3, toks := s2.toks + 1 }) (ow := fun b => b = L) S5 kp nt (fun b w => w ▸ nl4) (fun b w => by
    subst w
    cases z : C.h₀.get? b with
    | none => rfl
    | some o => exact absurd (C.low _ _ z) (Nat.not_lt.mpr n2))
  refine wpAny_pure (wpAny_pure ⟨.next, _, _, q acc na2, .next, S6, F5.ow (ow := fun b => b = L) kp nt (fun b w z => ?_), ((e4.evoF F.own).trans e5).ow (ow := fun b => b = L) kp (fun b w => w ▸ fl)⟩)
  subst w
  obtain ⟨o, e⟩ := F.own_there z
  rw [e] at fl; cases fl
end

end Mine

set_option autoImplicit false
set_option linter.unusedVariables false
namespace Mine
open PySem PySem.W PySem.SeqAt

section
variable {C : Cx} {A : Around} {env : Env} {ρ : Rho} {σ : Store} {X : XP} {s : Shared}

mutual
/-- a value as plain data -/
inductive DR (C : Cx) (σ : Store) : V → PyData → Prop where
  | none : DR C σ .none .none
  | bool (b : Bool) : DR C σ (.bool b) (.bool b)
  | int (i : Int) : DR C σ (.int i) (.int i)
  | str (x : Str) : DR C σ (.str x) (.str x)
  | tup {xs : List V} {ds : List PyData} : DRs C σ xs ds → DR C σ (.tup xs) (.tuple ds)
  | list {l : Addr} {xs : List V} {ds : List PyData} : LstAt C σ l xs → DRs C σ xs ds → DR C σ (.ref l) (.list ds)
inductive DRs (C : Cx) (σ : Store) : List V → List PyData → Prop where
  | nil : DRs C σ [] []
  | cons {x : V} {xs : List V} {d : PyData} {ds : List PyData} : DR C σ x d → DRs C σ xs ds → DRs C σ (x :: xs) (d :: ds)
end

mutual
theorem DR.reads (S : St C σ s) : ∀ {x : V} {d : PyData} {v : Value}, DR C σ x d → VR s.heap v x → ∃ as, Reads s.heap v d as
  | _, _, _, .none, .none => ⟨_, .none⟩
  | _, _, _, .bool b, .bool _ => ⟨_, .bool b⟩
  | _, _, _, .int i, .int _ t => ⟨_, .int i t⟩
  | _, _, _, .str x, .str _ t => ⟨_, .str x t⟩
  | _, _, _, .tup ds, .tup e r => by
    obtain ⟨as, h⟩ := DRs.reads S ds r
    exact ⟨_, .tuple e rfl rfl h⟩
  | _, _, _, .list (l := l) hl ds, .ref _ => by
    obtain ⟨items, ⟨o, e, c, n, hd⟩, r⟩ := hl.raw S
    obtain ⟨as, h⟩ := DRs.reads S ds r
    exact ⟨_, .list e c hd h⟩
theorem DRs.reads (S : St C σ s) : ∀ {xs : List V} {ds : List PyData} {vs : List Value}, DRs C σ xs ds → VRs s.heap vs xs → ∃ as, ReadsAll s.heap vs ds as
  | _, _, _, .nil, .nil => ⟨_, .nil⟩
  | _, _, _, .cons a b, .cons r rs => by
    obtain ⟨as, h⟩ := DR.reads S a r
    obtain ⟨bs, h'⟩ := DRs.reads S b rs
    exact ⟨_, .cons h h'⟩
end

theorem CmpWP.eq {x y : V} {d e : PyData} {Q : V → Store → Prop} (hx : DR C σ x d) (hy : DR C σ y e) (h1 : d.canLay0 = true) (h2 : e.canLay0 = true) (hu : A.units + min d.depth e.depth < cLine) (h : Q (.bool (PyData.eqv d e)) σ) :
    CmpWP C A .Eq x y σ Q X := by
  intro s a b S ra rb
  obtain ⟨as, r1⟩ := hx.reads S ra
  obtain ⟨bs, r2⟩ := hy.reads S rb
  exact eqOverData _ _ _ _ _ _ _ _ _ _ _ _ r1 r2 h1 h2 hu (EP.pure S h (.bool _))
theorem CmpWP.ne {x y : V} {d e : PyData} {Q : V → Store → Prop} (hx : DR C σ x d) (hy : DR C σ y e) (h1 : d.canLay0 = true) (h2 : e.canLay0 = true) (hu : A.units + min d.depth e.depth < cLine) (h : Q (.bool (!PyData.eqv d e)) σ) :
    CmpWP C A .NotEq x y σ Q X := by
  intro s a b S ra rb
  obtain ⟨as, r1⟩ := hx.reads S ra
  obtain ⟨bs, r2⟩ := hy.reads S rb
  exact neOverData _ _ _ _ _ _ _ _ _ _ _ _ r1 r2 h1 h2 hu (EP.pure S h (.bool _))
theorem CmpWP.inL {x : V} {l : Addr} {xs : List V} {d : PyData} {ds : List PyData} {Q : V → Store → Prop} (hl : LstAt C σ l xs) (hx : DR C σ x d) (hy : DRs C σ xs ds) (h1 : d.canLay0 = true) (h2 : PyData.canLayAll0 ds = true) (hu : A.units + 1 + min (PyData.depthAll ds) d.depth < cLine)
    (h : Q (.bool (ds.any fun y => PyData.eqv y d)) σ) : CmpWP C A .In x (.ref l) σ Q X := by
  intro s a b S ra rb
  obtain ⟨as, r1⟩ := hx.reads S ra
  obtain ⟨bs, r2⟩ := (DR.list hl hy).reads S rb
  exact in_list_reads r2 r1 h2 h1 hu (EP.pure S h (.bool _))
theorem CmpWP.notInL {x : V} {l : Addr} {xs : List V} {d : PyData} {ds : List PyData} {Q : V → Store → Prop} (hl : LstAt C σ l xs) (hx : DR C σ x d) (hy : DRs C σ xs ds) (h1 : d.canLay0 = true) (h2 : PyData.canLayAll0 ds = true) (hu : A.units + 1 + min (PyData.depthAll ds) d.depth < cLine)
    (h : Q (.bool (!ds.any fun y => PyData.eqv y d)) σ) : CmpWP C A .NotIn x (.ref l) σ Q X := by
  intro s a b S ra rb
  obtain ⟨as, r1⟩ := hx.reads S ra
  obtain ⟨bs, r2⟩ := (DR.list hl hy).reads S rb
  exact notIn_list_reads r2 r1 h2 h1 hu (EP.pure S h (.bool _))
theorem CmpWP.inT {x : V} {xs : List V} {d : PyData} {ds : List PyData} {Q : V → Store → Prop} (hx : DR C σ x d) (hy : DRs C σ xs ds) (h1 : d.canLay0 = true) (h2 : PyData.canLayAll0 ds = true) (hu : A.units + 1 + min (PyData.depthAll ds) d.depth < cLine)
    (h : Q (.bool (ds.any fun y => PyData.eqv y d)) σ) : CmpWP C A .In x (.tup xs) σ Q X := by
  intro s a b S ra rb
  obtain ⟨as, r1⟩ := hx.reads S ra
  obtain ⟨bs, r2⟩ := (DR.tup hy).reads S rb
  exact in_tuple_reads r2 r1 h2 h1 hu (EP.pure S h (.bool _))
theorem CmpWP.notInT {x : V} {xs : List V} {d : PyData} {ds : List PyData} {Q : V → Store → Prop} (hx : DR C σ x d) (hy : DRs C σ xs ds) (h1 : d.canLay0 = true) (h2 : PyData.canLayAll0 ds = true) (hu : A.units + 1 + min (PyData.depthAll ds) d.depth < cLine)
    (h : Q (.bool (!ds.any fun y => PyData.eqv y d)) σ) : CmpWP C A .NotIn x (.tup xs) σ Q X := by
  intro s a b S ra rb
  obtain ⟨as, r1⟩ := hx.reads S ra
  obtain ⟨bs, r2⟩ := (DR.tup hy).reads S rb
  exact notIn_tuple_reads r2 r1 h2 h1 hu (EP.pure S h (.bool _))

/- None, True, False -/
theorem CmpWP.isNone {x : V} {Q : V → Store → Prop} (h : Q (.bool (match x with | .none => true | _ => false)) σ) : CmpWP C A .Is x .none σ Q X := by
  intro s a b S ra rb
  cases rb
  refine is_none (EP.pure S h ?_)
  cases ra <;> exact .bool _
theorem CmpWP.isNotNone {x : V} {Q : V → Store → Prop} (h : Q (.bool (match x with | .none => false | _ => true)) σ) : CmpWP C A .IsNot x .none σ Q X := by
  intro s a b S ra rb
  cases rb
  refine isNot_none (EP.pure S h ?_)
  cases ra <;> exact .bool _

/- lists: truth, length, items -/
theorem TruWP.list {l : Addr} {xs : List V} {Q : Bool → Store → Prop} (hl : LstAt C σ l xs) (hz : xs.length < 2 ^ 62) (h : Q (!xs.isEmpty) σ) : TruWP C A (.ref l) σ Q X := by
  intro s a S r
  cases r
  obtain ⟨items, il, rl⟩ := hl.raw S
  have e := rl.length
  simp only [Array.length_toList] at e
  refine wpAny_truthy_list il (by omega) ⟨σ, ?_, S.toks _, .refl ..⟩
  have : items.isEmpty = xs.isEmpty := by
    unfold Array.isEmpty
    rw [e]
    cases xs <;> simp
  rw [this]; exact h

def BltWP (C : Cx) (A : Around) (id : String) (args : List V) (σ : Store) (Q : V → Store → Prop) (X : XP) : Prop := CallWP C A (.builtin id) args σ Q X

theorem BltWP.len_list {l : Addr} {xs : List V} {Q : V → Store → Prop} (hl : LstAt C σ l xs) (hz : xs.length < 2 ^ 62) (h : Q (.int xs.length) σ) : CallWP C A (.builtin "len") [.ref l] σ Q X := by
  intro s vs S r
  cases r with
  | cons r1 r2 =>
  cases r2; cases r1
  obtain ⟨items, il, rl⟩ := hl.raw S
  have e := rl.length
  simp only [Array.length_toList] at e
  refine Calls.call_len_list il (by omega) ⟨_, σ, h, ?_, S.toks _, .refl ..⟩
  rw [e]; exact .int _ _
end

end Mine

set_option autoImplicit false
set_option linter.unusedVariables false
namespace Mine
open PySem PySem.W PySem.SeqAt

/-- its items come by a built-in -/
def Gets (s : Shared) (a : Value) : Prop := ∃ T id, s.TypeIs a T ∧ typeLookup (.type T) "__getitem__" = pure (some (.builtin id))
def ItemWP (C : Cx) (A : Around) (o i : V) (σ : Store) (Q : V → Store → Prop) (X : XP) : Prop :=
  ∀ s a b, St C σ s → VR s.heap a o → VR s.heap b i → Gets s a ∧ wpAny C.M A (getItem a b) (EP C σ s.heap Q) X s

section
variable {C : Cx} {A : Around} {env : Env} {ρ : Rho} {σ : Store} {X : XP} {s : Shared}

theorem Gets.list {a : Addr} {items : Array Value} (h : s.heap.IsList a items) : Gets s (.ref a) := ⟨_, _, h.typeIs, PySem.slot_list_getitem.lookup⟩
theorem Gets.tup {a : Addr} {items : Array Value} {n : Nat} (h : s.heap.get? a = some (tupObj items n)) : Gets s (.ref a) := ⟨_, _, ⟨_, h, rfl⟩, PyProof.Rows.slot_tuple_getitem.lookup⟩
theorem Gets.str {x : Str} {t : Tok} : Gets s (.str x t) := ⟨_, _, typeIs_str s x t, PyProof.Rows.slot_str_getitem.lookup⟩

theorem getitem_mine {o i : Value} {slice value : Expr} {Q : Value → Shared → Prop} {E : XP} (g : Gets s o) (h : wpAny C.M A (getItem o i) Q E s) :
    wpAny C.M A (do let r ← subscripted slice (← getitemInPython o) o i; letTemporaryGo value o r; pure r) Q E s := by
  obtain ⟨T, id, hT, hl⟩ := g
  refine wpAny_bind ?_
  rw [getitemInPython_of_ne hT.not_modules]
  refine wpAny_bind (wpAny_specialOf hT hl (wpAny_pure ?_))
  refine wpAny_bind (wpAny_mono (Q := Q) ?_ (fun r s' q => wpAny_bind (wpAny_letTemporaryGo (wpAny_pure q))) fun _ _ z => z)
  unfold subscripted
  split
  · exact wpAny_operating h
  · rename_i e; cases e
  · exact wpAny_operating h

theorem Ev.sub {value slice : Expr} {pos : Pos} {Q : V → Store → Prop} (h : Ev C A env value ρ σ (fun o σ1 => Ev C A env slice ρ σ1 (fun i σ2 => ItemWP C A o i σ2 Q X) X) X) : Ev C A env (.Subscript value slice pos) ρ σ Q X := by
  intro s S F
  rw [eval_Subscript]
  refine wpAny_bind (wpAny_mono (h s S F) ?_ fun _ _ z => z)
  rintro o s1 ⟨x, σ1, h1, r1, S1, e1⟩
  refine wpAny_bind (wpAny_holding (wpAny_mono (h1 s1 S1 (F.evo e1)) ?_ fun _ _ z => z))
  rintro i s2 ⟨y, σ2, h2, r2, S2, e2⟩
  obtain ⟨g, w⟩ := h2 s2 o i S2 (r1.mono e2.tup) r2
  exact wpAny_bind (wpAny_standAt (wpAny_mono (getitem_mine g w) (fun _ _ z => (z.after e2).after e1) fun _ _ z => z))

theorem ItemWP.list {l : Addr} {xs : List V} {k : Int} {y : V} {Q : V → Store → Prop} (hl : LstAt C σ l xs) (h0 : 0 ≤ k) (hk : k < 2 ^ 63) (hx : xs[k.toNat]? = some y) (h : Q y σ) : ItemWP C A (.ref l) (.int k) σ Q X := by
  intro s a b S ra rb
  cases ra; cases rb
  obtain ⟨items, il, rl⟩ := hl.raw S
  obtain ⟨u, hu, ru⟩ := rl.get hx
  exact ⟨.list il, wpAny_getItem_list il h0 hk (by simpa using hu) (EP.pure S h ru)⟩
theorem ItemWP.listNeg {l : Addr} {xs : List V} {k : Int} {y : V} {Q : V → Store → Prop} (hl : LstAt C σ l xs) (h0 : k < 0) (h1 : -(xs.length : Int) ≤ k) (hf : -(2 ^ 63) ≤ k) (hx : xs[(k + xs.length).toNat]? = some y) (h : Q y σ) : ItemWP C A (.ref l) (.int k) σ Q X := by
  intro s a b S ra rb
  cases ra; cases rb
  obtain ⟨items, il, rl⟩ := hl.raw S
  obtain ⟨u, hu, ru⟩ := rl.get hx
  have e := rl.length
  simp only [Array.length_toList] at e
  exact ⟨.list il, wpAny_getItem_list_neg il h0 (by rw [e]; exact h1) hf (by rw [e]; simpa using hu) (EP.pure S h ru)⟩
theorem ItemWP.tup {xs : List V} {k : Int} {j : Nat} {y : V} {Q : V → Store → Prop} (hlo : -(2 ^ 63) ≤ k) (hhi : k < 2 ^ 63) (hj : seqIndex? k xs.length = some j) (hx : xs[j]? = some y) (h : Q y σ) : ItemWP C A (.tup xs) (.int k) σ Q X := by
  intro s a b S ra rb
  cases rb
  cases ra with
  | @tup t items n _ ha hr =>
    obtain ⟨u, hu, ru⟩ := hr.get hx
    have e := hr.length
    simp only [Array.length_toList] at e
    exact ⟨.tup ha, PyProof.Rows.getItem_tuple (t := t) (items := items) ⟨_, ha, rfl, n, rfl⟩ hlo hhi (by rw [e]; exact hj) (by simpa using hu) (EP.pure S h ru)⟩
theorem ItemWP.str {x : Str} {k : Int} {c : Nat} {Q : V → Store → Prop} (hlo : -(2 ^ 63) ≤ k) (hhi : k < 2 ^ 63) (hc : (seqIndex? k x.length).bind (x.cps[·]?) = some c) (h : Q (.str ⟨#[c]⟩) σ) : ItemWP C A (.str x) (.int k) σ Q X := by
  intro s a b S ra rb
  cases rb; cases ra
  exact ⟨.str, PyProof.Rows.getItem_str (by simp; omega) hc (EP.pureT S h (.str _ _))⟩

/- dicts -/
theorem ItemWP.sd {d : Addr} {es : List (Str × V)} {k : Str} {y : V} {Q : V → Store → Prop} (hd : σ d = some (.sd es)) (hx : sget es k = some y) (h : Q y σ) : ItemWP C A (.ref d) (.str k) σ Q X := by
  intro s a b S ra rb
  cases ra; cases rb
  rename_i t
  obtain ⟨kvs, D, pr⟩ := S.rep _ _ hd
  obtain ⟨u, hu, ru⟩ := pr.find (x := k) (y := y) hx
  refine ⟨⟨_, _, D.typeIs, PySem.slot_dict_getitem.lookup⟩, ?_⟩
  exact wpAny_getItem_of (knd := strKind C.prog C.w) (k := k) (by show (k == k) = true; simp) D.mapOf hu (EP.pureT S h ru)
def iget (es : List (Int × V)) (x : Int) : Option V := (es.find? fun p => decide (p.1 = x)).map (·.2)
theorem ItemWP.id {d : Addr} {es : List (Int × V)} {k : Int} {y : V} {Q : V → Store → Prop} (hd : σ d = some (.id es)) (hx : iget es k = some y) (h : Q y σ) : ItemWP C A (.ref d) (.int k) σ Q X := by
  intro s a b S ra rb
  cases ra; cases rb
  rename_i t
  obtain ⟨kvs, D, pr⟩ := S.rep _ _ hd
  obtain ⟨u, hu, ru⟩ := pr.find (x := k) (y := y) hx
  refine ⟨⟨_, _, D.typeIs, PySem.slot_dict_getitem.lookup⟩, ?_⟩
  exact wpAny_getItem_of (knd := intKind C.prog C.w) (k := k) (by show (k == k) = true; simp) D.mapOf hu (EP.pureT S h ru)

/- slices -/
def Prt (C : Cx) (A : Around) (env : Env) (e : Option Expr) (ρ : Rho) (σ : Store) (Q : Option Int → Store → Prop) (X : XP) : Prop :=
  match e with
  | none => Q none σ
  | some e => Ev C A env e ρ σ (fun x σ1 => ∃ i, x = .int i ∧ Q (some i) σ1) X
theorem Prt.none {Q : Option Int → Store → Prop} (h : Q Option.none σ) : Prt C A env Option.none ρ σ Q X := h
theorem Prt.some {e : Expr} {Q : Option Int → Store → Prop} (h : Ev C A env e ρ σ (fun x σ1 => ∃ i, x = .int i ∧ Q (Option.some i) σ1) X) : Prt C A env (Option.some e) ρ σ Q X := h
theorem Prt.run {e : Option Expr} {Q : Option Int → Store → Prop} (h : Prt C A env e ρ σ Q X) (S : St C σ s) (F : Fm C σ s.heap env ρ) :
    wpAny C.M A (valueOrNone (evalOpt e env)) (fun v s' => ∃ k σ', Q k σ' ∧ IsPart v k ∧ St C σ' s' ∧ Evo σ s.heap σ' s'.heap) X s := by
  match e, h with
  | Option.none, h => exact wpAny_pure ⟨Option.none, σ, h, .none, S, .refl ..⟩
  | Option.some e, h =>
    refine wpAny_mono (h s S F) ?_ fun _ _ z => z
    rintro v s1 ⟨x, σ1, ⟨i, rfl, q⟩, r1, S1, e1⟩
    cases r1
    exact ⟨Option.some i, σ1, q, .int _ _, S1, e1⟩

def pySlice {α : Type} (xs : List α) (lo hi : Option Int) : List α :=
  (sliceRange (sliceBounds lo hi none xs.length).1 (sliceBounds lo hi none xs.length).2.1 (sliceBounds lo hi none xs.length).2.2).filterMap (xs[·]?)
theorem VRs.pick {h : Heap} {vs : List Value} {xs : List V} (r : VRs h vs xs) : ∀ ks : List Nat, VRs h (ks.filterMap (vs[·]?)) (ks.filterMap (xs[·]?))
  | [] => .nil
  | k :: ks => by
    have ih := VRs.pick r ks
    cases q : xs[k]? with
    | none =>
      have : vs[k]? = none := by
        have h1 := List.getElem?_eq_none_iff.mp q
        exact List.getElem?_eq_none_iff.mpr (by rw [r.length]; exact h1)
      simp only [List.filterMap_cons, q, this]; exact ih
    | some y =>
      obtain ⟨u, hu, ru⟩ := r.get q
      simp only [List.filterMap_cons, q, hu]; exact .cons ru ih
theorem slicePick_list (items : Array Value) (lo hi : Option Int) : (slicePick items lo hi none).toList = pySlice items.toList lo hi := by
  unfold slicePick pySlice
  simp
theorem Ev.sliceL {value : Expr} {lo hi : Option Expr} {p pos : Pos} {Q : V → Store → Prop}
    (h : Ev C A env value ρ σ (fun o σ1 => Prt C A env lo ρ σ1 (fun a σ2 => Prt C A env hi ρ σ2 (fun b σ3 => ∃ l xs, o = .ref l ∧ LstAt C σ3 l xs ∧ xs.length ≤ sizeLine ∧
      ∀ c, σ3 c = Option.none → Q (.ref c) (σ3.upd c (.list (pySlice xs a b)))) X) X) X) : Ev C A env (.Subscript value (.Slice lo hi Option.none p) pos) ρ σ Q X := by
  intro s S F
  rw [eval_Subscript]
  refine wpAny_bind (wpAny_mono (h s S F) ?_ fun _ _ z => z)
  rintro o s1 ⟨x, σ1, h1, r1, S1, e1⟩
  refine wpAny_bind (wpAny_holding ?_)
  rw [arm_eval_Slice]
  refine wpAny_bind (wpAny_mono (h1.run S1 (F.evo e1)) ?_ fun _ _ z => z)
  rintro vl s2 ⟨a, σ2, h2, p2, S2, e2⟩
  refine wpAny_bind (wpAny_holding (wpAny_mono (h2.run S2 ((F.evo e1).evo e2)) ?_ fun _ _ z => z))
  rintro vu s3 ⟨b, σ3, ⟨l, xs, rfl, hl, hz, q⟩, p3, S3, e3⟩
  cases r1
  refine wpAny_bind (wpAny_holding (wpAny_pure (wpAny_newObj_type ?_)))
  have S4 : St C σ3 { s3 with heap := s3.heap.push { cls := .type "slice", data := .fields #[vl, vu, .none] } } := S3.push
  obtain ⟨items, il, rl⟩ := hl.raw S4
  have e := rl.length
  simp only [Array.length_toList] at e
  refine wpAny_bind (wpAny_standAt (getitem_mine (.list il) (wpAny_getItem_list_slice (lo := a) (hi := b) (st := none) il ⟨_, Heap.get?_push_size _ rfl, rfl, rfl⟩ p2 p3 .none (by simp) ?_ (by rw [e]; exact hz))))
  obtain ⟨S5, e5⟩ := S4.new (t := s3.toks) (rep_list_push (C := C) (vs := (slicePick items a b none).toList) (xs := pySlice xs a b) (by rw [slicePick_list]; unfold pySlice; simp only [Array.length_toList, e]; exact rl.pick _))
  refine ⟨.ref _, _, q _ S4.fresh, .ref _, by simpa using S5, ?_⟩
  have := (((e1.trans e2).trans e3).trans .push).trans e5
  simpa using this
end

end Mine

set_option autoImplicit false
set_option linter.unusedVariables false
namespace Mine
open PySem PySem.W PySem.SeqAt

/-- a built-in type's value without a dict of its own -/
def TyV (C : Cx) (σ : Store) (x : V) (T : String) : Prop := ∀ s v, St C σ s → VR s.heap v x → s.TypeIs v T ∧ ∀ a, v = .ref a → ∃ ob, s.heap.get? a = some ob ∧ ob.dict = none

section
variable {C : Cx} {A : Around} {env : Env} {ρ : Rho} {σ : Store} {X : XP} {s : Shared}

theorem TyV.list {l : Addr} {xs : List V} (h : σ l = some (.list xs)) : TyV C σ (.ref l) "list" := by
  intro s v S r
  cases r
  obtain ⟨items, ⟨n, e⟩, _⟩ := S.rep _ _ h
  exact ⟨⟨_, e, rfl⟩, fun a q => by cases q; exact ⟨_, e, rfl⟩⟩
theorem TyV.sd {l : Addr} {xs : List (Str × V)} (h : σ l = some (.sd xs)) : TyV C σ (.ref l) "dict" := by
  intro s v S r
  cases r
  obtain ⟨kvs, D, _⟩ := S.rep _ _ h
  exact ⟨D.typeIs, D.mapOf.noDict⟩
theorem TyV.id {l : Addr} {xs : List (Int × V)} (h : σ l = some (.id xs)) : TyV C σ (.ref l) "dict" := by
  intro s v S r
  cases r
  obtain ⟨kvs, D, _⟩ := S.rep _ _ h
  exact ⟨D.typeIs, D.mapOf.noDict⟩
theorem TyV.str {x : Str} : TyV C σ (.str x) "str" := by
  intro s v S r
  cases r
  exact ⟨typeIs_str _ _ _, fun a q => by cases q⟩

/-- a method of a built-in type -/
theorem Ev.bmeth {o : Expr} {name : Str} {apos pos : Pos} {args : List Expr} {T id : String} {Q : V → Store → Prop} (pa : PlainAttrs T) (slot : Slot T name id) (hty : typeOf (.builtin id) = Pure.pure (.type "method_descriptor"))
    (h : Ev C A env o ρ σ (fun x σ1 => TyV C σ1 x T ∧ Ags C A env pos args ρ σ1 (fun xs σ2 => CallWP C A (.builtin id) (x :: xs) σ2 Q X) X) X)
    (hbase : attributeBase o name env (eval o env) = eval o env := by kernel_rfl)
    (hfew : ((backTo pos (starEach args env)).all (fun x => !x.1) && (backToKw pos (keywordEach [] env)).all (fun x => x.1.isSome)
      && decide (args.length + ([] : List Keyword).length + (if ([] : List Keyword).isEmpty then 0 else 1) < 30)) = true := by kernel_rfl)
    (hline : (apos.endLine == pos.line) = true := by kernel_rfl) (hst : (backTo pos (starEach args env)).any (·.1) = false := by kernel_rfl) : Ev C A env (.Call (.Attribute o name apos) args [] pos) ρ σ Q X := by
  intro s S F
  refine wpAny_Call_method hbase hfew hline pa slot hty (wpAny_mono (h s S F) ?_ fun _ _ z => z)
  rintro ov s1 ⟨x, σ1, ⟨t, q⟩, r1, S1, e1⟩
  obtain ⟨t1, t2⟩ := t s1 ov S1 r1
  exact ⟨t1, t2, wpAny_mono (callWith_mine (first := [ov]) (fx := [x]) Kp.blt S1 (F.evo e1) (.cons r1 .nil) q hst) (fun _ _ z => z.after e1) fun _ _ z => z⟩

/- one list changed -/
theorem upd_list {l : Addr} {xs : List V} {items : Array Value} {n : Nat} {f : Array Value → Array Value} {ys : List V} (S : St C σ s) (hl : σ l = some (.list xs)) (e : s.heap.get? l = some { cls := .type "list", data := .seq items n })
    (r : VRs s.heap (f items).toList ys) : St C (σ.upd l (.list ys)) { s with heap := s.heap.update l (Obj.mapSeq f) } ∧ Evo σ s.heap (σ.upd l (.list ys)) (s.heap.update l (Obj.mapSeq f)) := by
  have sb : Heap.SameBut l s.heap (s.heap.update l (Obj.mapSeq f)) := Heap.SameBut.update ..
  have tk : TupKeep s.heap (s.heap.update l (Obj.mapSeq f)) := tupKeep_sameBut sb (S.rep _ _ hl).notTup
  have e' : ∃ n', (s.heap.update l (Obj.mapSeq f)).get? l = some { cls := .type "list", data := .seq (f items) n' } := by
    refine ⟨if (f items).size == items.size then n else n + 1, ?_⟩
    rw [Heap.get?_update_self _ e (by rfl)]; rfl
  exact S.set (t := s.toks) hl sb ⟨f items, e', r.mono tk⟩

theorem CallWP.append {l : Addr} {xs : List V} {x : V} {Q : V → Store → Prop} (hl : σ l = some (.list xs)) (hz : xs.length ≤ sizeLine) (h : Q .none (σ.upd l (.list (xs ++ [x])))) : CallWP C A (.builtin "list.append") [.ref l, x] σ Q X := by
  intro s vs S r
  cases r with
  | cons r1 r2 =>
  cases r2 with
  | cons r2 r3 =>
  cases r3; cases r1
  obtain ⟨items, pl, rl⟩ := S.rep _ _ hl
  have e := rl.length
  simp only [Array.length_toList] at e
  refine wpAny_list_append_plain pl (fun h' pl' sb => ?_) (by omega)
  have tk : TupKeep s.heap h' := tupKeep_sameBut sb (S.rep _ _ hl).notTup
  obtain ⟨S', e'⟩ := S.set (t := s.toks) (o' := .list (xs ++ [x])) hl sb ⟨_, pl', by simp only [Array.toList_push]; exact (rl.mono tk).append (.cons (r2.mono tk) .nil)⟩
  exact ⟨.none, _, h, .none, S', e'⟩

theorem VRs.erase {h : Heap} : ∀ {vs : List Value} {xs : List V}, VRs h vs xs → ∀ k : Nat, VRs h (vs.eraseIdx k) (xs.eraseIdx k)
  | _, _, .nil, _ => .nil
  | _, _, .cons a b, 0 => b
  | _, _, .cons a b, k + 1 => .cons a (VRs.erase b k)
theorem VRs.reverse {h : Heap} {vs : List Value} {xs : List V} (r : VRs h vs xs) : VRs h vs.reverse xs.reverse := by
  induction r using VRs.rec (motive_1 := fun _ _ _ => True) with
  | nil => exact .nil
  | cons a b iha ih => simp only [List.reverse_cons]; exact ih.append (.cons a .nil)
  | _ => trivial

theorem seqIndex_nat {k n : Nat} (h : k < n) : seqIndex? (k : Int) n = some k := by rw [seqIndex_of (by omega) (by omega)]; simp

theorem CallWP.pop_at {l : Addr} {xs : List V} {k : Int} {j : Nat} {y : V} {Q : V → Store → Prop} (hl : σ l = some (.list xs)) (hk : Builtin.List.listFitsIndex k = true) (hj : seqIndex? k xs.length = some j) (hy : xs[j]? = some y) (hz : xs.length ≤ sizeLine)
    (h : Q y (σ.upd l (.list (xs.eraseIdx j)))) : CallWP C A (.builtin "list.pop") [.ref l, .int k] σ Q X := by
  intro s vs S r
  cases r with
  | cons r1 r2 =>
  cases r2 with
  | cons r2 r3 =>
  cases r3; cases r1; cases r2
  rename_i t
  obtain ⟨items, ⟨n, e⟩, rl⟩ := S.rep _ _ hl
  have el := rl.length
  simp only [Array.length_toList] at el
  obtain ⟨u, hu, ru⟩ := rl.get hy
  have hne : items.isEmpty = false := by
    have : j < xs.length := (List.getElem?_eq_some_iff.mp hy).1
    have h0 : items.size ≠ 0 := by omega
    simpa [Array.isEmpty] using h0
  refine wpAny_call_entry F.slot_list_pop ⟨_, e, rfl⟩ F.entry_list_pop ?_ (F.args_list_pop_2 _ _)
  show wpAny _ _ (do
    if !Builtin.List.listFitsIndex k then rule "list.pop.index-too-large"; raiseError "OverflowError" "Python int too large to convert to C ssize_t"
    let xs ← Builtin.List.listItems (.ref l)
    if xs.isEmpty then rule "list.pop.empty"; raiseError "IndexError" "pop from empty list"
    match (seqIndex? k xs.size).bind fun k => xs[k]?.map (k, ·) with
    | some (k, x) => Builtin.List.listUpdate (.ref l) (·.eraseIdxIfInBounds k); ret x
    | none => rule "list.pop.out-of-range"; raiseError "IndexError" "pop index out of range") _ _ s
  rw [hk]
  refine wpAny_bind (wpAny_listItems e rfl ?_)
  have hu' : items[j]? = some u := by simpa using hu
  simp only [hne, el, hj, Option.bind_some, hu', Option.map_some, Bool.false_eq_true, if_false]
  refine wpAny_bind (wpAny_updateSeq e rfl (wpAny_pure ⟨_, rfl, ?_⟩) (by omega) (by show (items.eraseIdxIfInBounds j).size ≤ _; unfold Array.eraseIdxIfInBounds; split <;> (try simp) <;> omega))
  obtain ⟨S', e'⟩ := upd_list (f := fun x => x.eraseIdxIfInBounds j) S hl e (ys := xs.eraseIdx j) (by
    have : (items.eraseIdxIfInBounds j).toList = items.toList.eraseIdx j := by
      have hj' : j < items.size := by rw [el]; exact (List.getElem?_eq_some_iff.mp hy).1
      simp [Array.eraseIdxIfInBounds, hj', Array.toList_eraseIdx]
    rw [this]; exact rl.erase j)
  exact ⟨y, _, h, ru.mono e'.tup, S', e'⟩

/- remove -/
theorem remove_loop_mine {l : Addr} {items : Array Value} {n j : Nat} {x : Value} (hz : items.size ≤ sizeLine) (hj : j < items.size) : ∀ (k i : Nat) (R : Result → Shared → Prop), j - i = k → i ≤ j → s.heap.get? l = some { cls := .type "list", data := .seq items n } →
    (∀ m (hm : m < items.size), i ≤ m → m < j → EqAt A.in1 s items[m] x false) → EqAt A.in1 s items[j] x true → R (.ok (.ret .none)) { s with heap := s.heap.update l (Obj.mapSeq fun xs => xs.eraseIdxIfInBounds j) } →
    codeAny C.M A (.builtin "list.remove.loop" ⟨[.ref l, x, rawInt i], []⟩) R s := by
  intro k
  induction k with
  | zero =>
    intro i R hk hij e hno hit hR
    have : i = j := by omega
    subst this
    refine codeAny_builtin MeetsSeq.entry_remove_loop ?_
    rw [Around.under_plainId MeetsSeq.plain_remove_loop _]
    refine wpAny_bind (wpAny_listItems e rfl ?_)
    have hi : items[((i : Nat) : Int).toNat]? = some items[i] := by simp [hj]
    rw [hi]
    refine wpAny_bind (hit C.prog C.w _ _ ?_)
    refine wpAny_bind (wpAny_updateSeq e rfl (wpAny_pure hR) hz ?_)
    show (items.eraseIdxIfInBounds i).size ≤ _
    unfold Array.eraseIdxIfInBounds
    split <;> (try simp) <;> omega
  | succ k ih =>
    intro i R hk hij e hno hit hR
    have hlt : i < items.size := by omega
    refine codeAny_builtin MeetsSeq.entry_remove_loop ?_
    rw [Around.under_plainId MeetsSeq.plain_remove_loop _]
    refine wpAny_bind (wpAny_listItems e rfl ?_)
    have hi : items[((i : Nat) : Int).toNat]? = some items[i] := by simp [hlt]
    rw [hi]
    refine wpAny_bind (hno i hlt (Nat.le_refl _) (by omega) C.prog C.w _ _ ?_)
    refine wpAny_pure ⟨plainId_quiet MeetsSeq.plain_remove_loop _, ?_⟩
    exact ih (i + 1) R (by omega) (by omega) e (fun m hm h1 h2 => hno m hm (by omega) h2) hit hR

theorem DRs.get {xs : List V} {ds : List PyData} : DRs C σ xs ds → ∀ {i : Nat} {x : V}, xs[i]? = some x → ∃ d, ds[i]? = some d ∧ DR C σ x d
  | .nil, _, _, e => by simp at e
  | .cons a b, 0, _, e => by simp at e; subst e; exact ⟨_, rfl, a⟩
  | .cons a b, i + 1, _, e => by
    obtain ⟨u, h1, h2⟩ := DRs.get b (i := i) (by simpa using e)
    exact ⟨u, by simpa using h1, h2⟩
theorem DRs.length {xs : List V} {ds : List PyData} : DRs C σ xs ds → xs.length = ds.length
  | .nil => rfl
  | .cons _ b => congrArg (· + 1) (DRs.length b)

theorem canLay_get {ds : List PyData} {i : Nat} {d : PyData} (h : PyData.canLayAll0 ds = true) (e : ds[i]? = some d) : d.canLay0 = true :=
  PyData.canLay0_of_mem ds d h (List.mem_of_getElem? e)
theorem depth_get : ∀ {ds : List PyData} {i : Nat} {d : PyData}, ds[i]? = some d → d.depth ≤ PyData.depthAll ds
  | [], _, _, e => by simp at e
  | _ :: ds, 0, _, e => by simp at e; subst e; exact Nat.le_max_left _ _
  | _ :: ds, i + 1, _, e => Nat.le_trans (depth_get (ds := ds) (i := i) (by simpa using e)) (Nat.le_max_right _ _)

theorem CallWP.remove {l : Addr} {xs : List V} {x : V} {d : PyData} {ds : List PyData} {j : Nat} {Q : V → Store → Prop} (hl : σ l = some (.list xs)) (hx : DR C σ x d) (hy : DRs C σ xs ds) (h1 : d.canLay0 = true) (h2 : PyData.canLayAll0 ds = true)
    (hu : A.units + 1 + min (PyData.depthAll ds) d.depth < cLine) (hz : xs.length ≤ sizeLine) (hj : ds.findIdx? (fun y => PyData.eqv y d) = some j) (h : Q .none (σ.upd l (.list (xs.eraseIdx j)))) : CallWP C A (.builtin "list.remove") [.ref l, x] σ Q X := by
  intro s vs S r
  cases r with
  | cons r1 r2 =>
  cases r2 with
  | @cons v _ _ _ r2 r3 =>
  cases r3; cases r1
  obtain ⟨items, ⟨n, e⟩, rl⟩ := S.rep _ _ hl
  have el := rl.length
  simp only [Array.length_toList] at el
  obtain ⟨hjl, hjt, hjf⟩ := List.findIdx?_eq_some_iff_getElem.mp hj
  have hjs : j < items.size := by rw [el, hy.length]; exact hjl
  obtain ⟨as, rx⟩ := hx.reads S r2
  have at_ : ∀ m (hm : m < items.size), ∃ dm, ds[m]? = some dm ∧ EqAt A.in1 s items[m] v (PyData.eqv dm d) := fun m hm => by
    obtain ⟨y, hy1, hy2⟩ := rl.get' (i := m) (u := items[m]) (by simp [hm])
    obtain ⟨dm, hd1, hd2⟩ := hy.get hy1
    obtain ⟨bs, rd⟩ := hd2.reads S hy2
    refine ⟨dm, hd1, fun prog w E Q hq => eqBoolOverData prog w _ E s _ _ dm d _ _ Q rd rx (canLay_get h2 hd1) h1 ?_ hq⟩
    have := depth_get hd1
    show A.units + 1 + _ < _
    omega
  refine wpAny_call (codeAny_call_builtin F.slot_list_remove.plain F.entry_list_remove (F.slot_list_remove.check _ _ _ _ _ _ _ _ ⟨_, e, rfl⟩ (F.args_list_remove_2 _ _) ?_))
  refine wpAny_pure ⟨plainId_quiet MeetsSeq.plain_remove_loop _, ?_⟩
  refine remove_loop_mine (j := j) (by omega) hjs _ 0 _ rfl (Nat.zero_le _) e (fun m hm _ hmj => ?_) ?_ ?_
  · obtain ⟨dm, hd1, hd2⟩ := at_ m hm
    have hf := hjf m hmj
    have : ds[m]? = some ds[m] := by simp
    rw [this] at hd1; cases hd1
    rw [Bool.not_eq_true] at hf
    rw [hf] at hd2; exact hd2
  · obtain ⟨dm, hd1, hd2⟩ := at_ j hjs
    have : ds[j]? = some ds[j] := by simp
    rw [this] at hd1; cases hd1
    rw [hjt] at hd2; exact hd2
  · obtain ⟨S', e'⟩ := upd_list (f := fun x => x.eraseIdxIfInBounds j) S hl e (ys := xs.eraseIdx j) (by
      have : (items.eraseIdxIfInBounds j).toList = items.toList.eraseIdx j := by
        simp [Array.eraseIdxIfInBounds, hjs, Array.toList_eraseIdx]
      rw [this]; exact rl.erase j)
    exact ⟨.none, _, h, .none, S', e'⟩

theorem CallWP.clear {l : Addr} {xs : List V} {Q : V → Store → Prop} (hl : σ l = some (.list xs)) (hz : xs.length ≤ sizeLine) (h : Q .none (σ.upd l (.list []))) : CallWP C A (.builtin "list.clear") [.ref l] σ Q X := by
  intro s vs S r
  cases r with
  | cons r1 r2 =>
  cases r2; cases r1
  obtain ⟨items, ⟨n, e⟩, rl⟩ := S.rep _ _ hl
  have el := rl.length
  simp only [Array.length_toList] at el
  refine wpAny_call_entry F.slot_list_clear ⟨_, e, rfl⟩ F.entry_list_clear ?_ (F.args_list_clear_1 _)
  show wpAny _ _ (do let old ← Builtin.List.listItems (.ref l); Builtin.List.listUpdate (.ref l) fun _ => #[]; letGo old.toList.reverse; ret .none) _ _ s
  refine wpAny_bind (wpAny_listItems e rfl (wpAny_bind (wpAny_updateSeq e rfl (wpAny_bind (wpAny_letGo (wpAny_pure ⟨_, rfl, ?_⟩))) (by omega) (by simp))))
  obtain ⟨S', e'⟩ := upd_list (f := fun _ => #[]) S hl e (ys := []) .nil
  exact ⟨.none, _, h, .none, S', e'⟩
theorem CallWP.reverse {l : Addr} {xs : List V} {Q : V → Store → Prop} (hl : σ l = some (.list xs)) (hz : xs.length ≤ sizeLine) (h : Q .none (σ.upd l (.list xs.reverse))) : CallWP C A (.builtin "list.reverse") [.ref l] σ Q X := by
  intro s vs S r
  cases r with
  | cons r1 r2 =>
  cases r2; cases r1
  obtain ⟨items, ⟨n, e⟩, rl⟩ := S.rep _ _ hl
  have el := rl.length
  simp only [Array.length_toList] at el
  refine wpAny_call_entry F.slot_list_reverse ⟨_, e, rfl⟩ F.entry_list_reverse ?_ (F.args_list_reverse_1 _)
  show wpAny _ _ (do Builtin.List.listUpdate (.ref l) (·.reverse); ret .none) _ _ s
  refine wpAny_bind (wpAny_updateSeq e rfl (wpAny_pure ⟨_, rfl, ?_⟩) (by omega) (by simp; omega))
  obtain ⟨S', e'⟩ := upd_list (f := fun x => x.reverse) S hl e (ys := xs.reverse) (by simp only [Array.toList_reverse]; exact rl.reverse)
  exact ⟨.none, _, h, .none, S', e'⟩
end

end Mine

set_option autoImplicit false
set_option linter.unusedVariables false
namespace Mine
open PySem PySem.W PySem.SeqAt

inductive Ty where
  | none | bool | int | str | tup | list | dict
def Ty.name : Ty → String
  | .none => "NoneType" | .bool => "bool" | .int => "int" | .str => "str" | .tup => "tuple" | .list => "list" | .dict => "dict"
inductive HasTy (C : Cx) (σ : Store) : V → Ty → Prop
  | none : HasTy C σ .none .none
  | bool (b : Bool) : HasTy C σ (.bool b) .bool
  | int (i : Int) : HasTy C σ (.int i) .int
  | str (x : Str) : HasTy C σ (.str x) .str
  | tup (xs : List V) : HasTy C σ (.tup xs) .tup
  | list {l : Addr} {xs : List V} : LstAt C σ l xs → HasTy C σ (.ref l) .list
  | sd {l : Addr} {xs : List (Str × V)} : σ l = some (.sd xs) → HasTy C σ (.ref l) .dict
  | id {l : Addr} {xs : List (Int × V)} : σ l = some (.id xs) → HasTy C σ (.ref l) .dict
def isiB : Ty → String → Bool
  | .bool, "int" => true
  | .bool, "bool" => true
  | .int, "int" => true
  | .str, "str" => true
  | .tup, "tuple" => true
  | .list, "list" => true
  | _, _ => false

section
variable {C : Cx} {A : Around} {env : Env} {ρ : Rho} {σ : Store} {X : XP} {s : Shared}

/-- how the heap bears a value's type -/
def Bears (s : Shared) (v : Value) : Ty → Prop
  | .none => v = .none
  | .bool => ∃ b, v = .bool b
  | .int => ∃ i t, v = .int i t
  | .str => ∃ x t, v = .str x t
  | .tup => ∃ a o, v = .ref a ∧ s.heap.get? a = some o ∧ o.cls = .type "tuple"
  | .list => ∃ a o, v = .ref a ∧ s.heap.get? a = some o ∧ o.cls = .type "list"
  | .dict => ∃ a o, v = .ref a ∧ s.heap.get? a = some o ∧ o.cls = .type "dict"
theorem HasTy.bears {x : V} {t : Ty} (h : HasTy C σ x t) {v : Value} (S : St C σ s) (r : VR s.heap v x) : Bears s v t := by
  cases h with
  | none => cases r; rfl
  | bool b => cases r; exact ⟨_, rfl⟩
  | int i => cases r; exact ⟨_, _, rfl⟩
  | str i => cases r; exact ⟨_, _, rfl⟩
  | tup xs => cases r with | tup e _ => exact ⟨_, _, rfl, e, rfl⟩
  | list hl =>
    cases r
    obtain ⟨items, ⟨o, e, c, _⟩, _⟩ := hl.raw S
    exact ⟨_, _, rfl, e, c⟩
  | sd hl =>
    cases r
    obtain ⟨kvs, D, _⟩ := S.rep _ _ hl
    obtain ⟨o, e, c⟩ := D.typeIs (s := s)
    exact ⟨_, _, rfl, e, c⟩
  | id hl =>
    cases r
    obtain ⟨kvs, D, _⟩ := S.rep _ _ hl
    obtain ⟨o, e, c⟩ := D.typeIs (s := s)
    exact ⟨_, _, rfl, e, c⟩

theorem isi_raw {v : Value} {t : Ty} {U : String} {Q : Value → Shared → Prop} {E : XP} (b : Bears s v t) (hU : U = "int" ∨ U = "bool" ∨ U = "str" ∨ U = "list" ∨ U = "tuple") (h : ∀ tk, Q (.bool (isiB t U)) { s with toks := tk }) :
    wpAny C.M A (call (.builtin "isinstance") [v, .type U]) Q E s := by
  rcases hU with rfl | rfl | rfl | rfl | rfl
  · cases t with
    | none => subst b; exact call_isinstance (isinstance_false_none (by decide +kernel) F.isi_meta_int F.sub_NoneType_int) (h _)
    | bool => obtain ⟨_, rfl⟩ := b; exact call_isinstance (isinstance_true (Tx := "bool") F.isi_meta_int F.sub_bool_int) ⟨rfl, h s.toks⟩
    | int => obtain ⟨_, _, rfl⟩ := b; exact call_isinstance (isinstance_true (Tx := "int") F.isi_meta_int F.sub_int_int) ⟨rfl, h s.toks⟩
    | str => obtain ⟨_, _, rfl⟩ := b; exact call_isinstance (isinstance_false_str (by decide +kernel) F.isi_meta_int F.sub_str_int) (h _)
    | tup => obtain ⟨a, o, rfl, e, hc⟩ := b; exact call_isinstance (isinstance_false_tuple (by decide +kernel) F.isi_meta_int F.sub_tuple_int) ⟨⟨o, e, hc⟩, h _⟩
    | list => obtain ⟨a, o, rfl, e, hc⟩ := b; exact call_isinstance (isinstance_false_list (by decide +kernel) F.isi_meta_int F.sub_list_int) ⟨⟨o, e, hc⟩, h _⟩
    | dict => obtain ⟨a, o, rfl, e, hc⟩ := b; exact call_isinstance (isinstance_false_dict (by decide +kernel) F.isi_meta_int F.sub_dict_int) ⟨⟨o, e, hc⟩, h _⟩
  · cases t with
    | none => subst b; exact call_isinstance (isinstance_false_none (by decide +kernel) F.isi_meta_bool F.sub_NoneType_bool) (h _)
    | bool => obtain ⟨_, rfl⟩ := b; exact call_isinstance (isinstance_true (Tx := "bool") F.isi_meta_bool F.sub_bool_bool) ⟨rfl, h s.toks⟩
    | int => obtain ⟨_, _, rfl⟩ := b; exact call_isinstance (isinstance_false_int (by decide +kernel) F.isi_meta_bool F.sub_int_bool) (h _)
    | str => obtain ⟨_, _, rfl⟩ := b; exact call_isinstance (isinstance_false_str (by decide +kernel) F.isi_meta_bool F.sub_str_bool) (h _)
    | tup => obtain ⟨a, o, rfl, e, hc⟩ := b; exact call_isinstance (isinstance_false_tuple (by decide +kernel) F.isi_meta_bool F.sub_tuple_bool) ⟨⟨o, e, hc⟩, h _⟩
    | list => obtain ⟨a, o, rfl, e, hc⟩ := b; exact call_isinstance (isinstance_false_list (by decide +kernel) F.isi_meta_bool F.sub_list_bool) ⟨⟨o, e, hc⟩, h _⟩
    | dict => obtain ⟨a, o, rfl, e, hc⟩ := b; exact call_isinstance (isinstance_false_dict (by decide +kernel) F.isi_meta_bool F.sub_dict_bool) ⟨⟨o, e, hc⟩, h _⟩
  · cases t with
    | none => subst b; exact call_isinstance (isinstance_false_none (by decide +kernel) F.isi_meta_str F.sub_NoneType_str) (h _)
    | bool => obtain ⟨_, rfl⟩ := b; exact call_isinstance (isinstance_false_bool (by decide +kernel) F.isi_meta_str F.sub_bool_str) (h _)
    | int => obtain ⟨_, _, rfl⟩ := b; exact call_isinstance (isinstance_false_int (by decide +kernel) F.isi_meta_str F.sub_int_str) (h _)
    | str => obtain ⟨_, _, rfl⟩ := b; exact call_isinstance (isinstance_true (Tx := "str") F.isi_meta_str F.sub_str_str) ⟨rfl, h s.toks⟩
    | tup => obtain ⟨a, o, rfl, e, hc⟩ := b; exact call_isinstance (isinstance_false_tuple (by decide +kernel) F.isi_meta_str F.sub_tuple_str) ⟨⟨o, e, hc⟩, h _⟩
    | list => obtain ⟨a, o, rfl, e, hc⟩ := b; exact call_isinstance (isinstance_false_list (by decide +kernel) F.isi_meta_str F.sub_list_str) ⟨⟨o, e, hc⟩, h _⟩
    | dict => obtain ⟨a, o, rfl, e, hc⟩ := b; exact call_isinstance (isinstance_false_dict (by decide +kernel) F.isi_meta_str F.sub_dict_str) ⟨⟨o, e, hc⟩, h _⟩
  · cases t with
    | none => subst b; exact call_isinstance (isinstance_false_none (by decide +kernel) F.isi_meta_list F.sub_NoneType_list) (h _)
    | bool => obtain ⟨_, rfl⟩ := b; exact call_isinstance (isinstance_false_bool (by decide +kernel) F.isi_meta_list F.sub_bool_list) (h _)
    | int => obtain ⟨_, _, rfl⟩ := b; exact call_isinstance (isinstance_false_int (by decide +kernel) F.isi_meta_list F.sub_int_list) (h _)
    | str => obtain ⟨_, _, rfl⟩ := b; exact call_isinstance (isinstance_false_str (by decide +kernel) F.isi_meta_list F.sub_str_list) (h _)
    | tup => obtain ⟨a, o, rfl, e, hc⟩ := b; exact call_isinstance (isinstance_false_tuple (by decide +kernel) F.isi_meta_list F.sub_tuple_list) ⟨⟨o, e, hc⟩, h _⟩
    | list => obtain ⟨a, o, rfl, e, hc⟩ := b; exact call_isinstance (isinstance_true (Tx := "list") F.isi_meta_list F.sub_list_list) ⟨⟨o, e, hc⟩, h s.toks⟩
    | dict => obtain ⟨a, o, rfl, e, hc⟩ := b; exact call_isinstance (isinstance_false_dict (by decide +kernel) F.isi_meta_list F.sub_dict_list) ⟨⟨o, e, hc⟩, h _⟩
  · cases t with
    | none => subst b; exact call_isinstance (isinstance_false_none (by decide +kernel) F.isi_meta_tuple F.sub_NoneType_tuple) (h _)
    | bool => obtain ⟨_, rfl⟩ := b; exact call_isinstance (isinstance_false_bool (by decide +kernel) F.isi_meta_tuple F.sub_bool_tuple) (h _)
    | int => obtain ⟨_, _, rfl⟩ := b; exact call_isinstance (isinstance_false_int (by decide +kernel) F.isi_meta_tuple F.sub_int_tuple) (h _)
    | str => obtain ⟨_, _, rfl⟩ := b; exact call_isinstance (isinstance_false_str (by decide +kernel) F.isi_meta_tuple F.sub_str_tuple) (h _)
    | tup => obtain ⟨a, o, rfl, e, hc⟩ := b; exact call_isinstance (isinstance_true (Tx := "tuple") F.isi_meta_tuple F.sub_tuple_tuple) ⟨⟨o, e, hc⟩, h s.toks⟩
    | list => obtain ⟨a, o, rfl, e, hc⟩ := b; exact call_isinstance (isinstance_false_list (by decide +kernel) F.isi_meta_tuple F.sub_list_tuple) ⟨⟨o, e, hc⟩, h _⟩
    | dict => obtain ⟨a, o, rfl, e, hc⟩ := b; exact call_isinstance (isinstance_false_dict (by decide +kernel) F.isi_meta_tuple F.sub_dict_tuple) ⟨⟨o, e, hc⟩, h _⟩

theorem CallWP.isi {x : V} {t : Ty} {U : String} {Q : V → Store → Prop} (ht : HasTy C σ x t) (hU : U = "int" ∨ U = "bool" ∨ U = "str" ∨ U = "list" ∨ U = "tuple") (h : Q (.bool (isiB t U)) σ) : CallWP C A (.builtin "isinstance") [x, .typ U] σ Q X := by
  intro s vs S r
  cases r with
  | cons r1 r2 =>
  cases r2 with
  | cons r2 r3 =>
  cases r3; cases r2
  exact isi_raw (ht.bears S r1) hU fun tk => EP.pureT S h (.bool _)

/- list(), tuple() -/
theorem CallWP.listOf {l : Addr} {xs : List V} {Q : V → Store → Prop} (hl : LstAt C σ l xs) (hz : xs.length ≤ sizeLine) (h : ∀ a, σ a = Option.none → Q (.ref a) (σ.upd a (.list xs))) : CallWP C A (.type "list") [.ref l] σ Q X := by
  intro s vs S r
  cases r with
  | cons r1 r2 =>
  cases r2; cases r1
  obtain ⟨items, ⟨o, e, c, n, hd⟩, rl⟩ := hl.raw S
  have el := rl.length
  simp only [Array.length_toList] at el
  refine call_list_seq l (.inl rfl) e c hd (fun h' c' kp e' => ?_) (by omega)
  have S' : St C σ { s with heap := h', toks := s.toks } := S.ext kp
  obtain ⟨S2, e2⟩ := S'.adopt (a := s.heap.objs.size) (o := .list xs) (σ0 := σ) (h0 := s.heap) ⟨items, ⟨c', e'⟩, rl.mono fun _ _ _ q => kp _ _ q⟩ S.size (.ext kp) (get?_fresh _)
  exact ⟨.ref _, _, h _ S.fresh, .ref _, S2, e2⟩
theorem CallWP.listOfTup {xs : List V} {Q : V → Store → Prop} (hz : xs.length ≤ sizeLine) (h : ∀ a, σ a = Option.none → Q (.ref a) (σ.upd a (.list xs))) : CallWP C A (.type "list") [.tup xs] σ Q X := by
  intro s vs S r
  cases r with
  | cons r1 r2 =>
  cases r2
  cases r1 with
  | @tup a items n _ e rl =>
  have el := rl.length
  simp only [Array.length_toList] at el
  refine call_list_seq a (.inr rfl) e rfl rfl (fun h' c' kp e' => ?_) (by omega)
  have S' : St C σ { s with heap := h', toks := s.toks } := S.ext kp
  obtain ⟨S2, e2⟩ := S'.adopt (a := s.heap.objs.size) (o := .list xs) (σ0 := σ) (h0 := s.heap) ⟨items, ⟨c', e'⟩, rl.mono fun _ _ _ q => kp _ _ q⟩ S.size (.ext kp) (get?_fresh _)
  exact ⟨.ref _, _, h _ S.fresh, .ref _, S2, e2⟩
theorem CallWP.tupOf {l : Addr} {xs : List V} {Q : V → Store → Prop} (hl : LstAt C σ l xs) (hz : xs.length ≤ sizeLine) (h : Q (.tup xs) σ) : CallWP C A (.type "tuple") [.ref l] σ Q X := by
  intro s vs S r
  cases r with
  | cons r1 r2 =>
  cases r2; cases r1
  obtain ⟨items, il, rl⟩ := hl.raw S
  have el := rl.length
  simp only [Array.length_toList] at el
  refine call_tuple_list il (fun h' kp => ?_) (by omega)
  have S' : St C σ { s with heap := h', toks := s.toks } := S.ext kp
  exact ⟨.tup xs, σ, h, .tup (n := 0) (Heap.get?_push_size _ rfl) ((rl.mono fun _ _ _ q => kp _ _ q).push), S'.push, (Evo.ext kp).trans .push⟩
theorem CallWP.tupOfTup {xs : List V} {Q : V → Store → Prop} (h : Q (.tup xs) σ) : CallWP C A (.type "tuple") [.tup xs] σ Q X := by
  intro s vs S r
  cases r with
  | cons r1 r2 =>
  cases r2
  cases r1 with
  | @tup a items n _ e rl =>
  exact call_tuple_same ⟨_, e, rfl, n, rfl⟩ (EP.pure S h (.tup e rl))

/- len, abs -/
theorem CallWP.len_tup {xs : List V} {Q : V → Store → Prop} (hz : xs.length < 2 ^ 62) (h : Q (.int xs.length) σ) : CallWP C A (.builtin "len") [.tup xs] σ Q X := by
  intro s vs S r
  cases r with
  | cons r1 r2 =>
  cases r2
  cases r1 with
  | @tup a items n _ e rl =>
  have el := rl.length
  simp only [Array.length_toList] at el
  refine PyProof.Rows.len_tuple (t := a) (items := items) ⟨_, e, rfl, n, rfl⟩ (by omega) ⟨_, σ, h, ?_, S.toks _, .refl ..⟩
  rw [el]; exact .int _ _
theorem CallWP.len_str {x : Str} {Q : V → Store → Prop} (hz : x.length < 2 ^ 62) (h : Q (.int x.length) σ) : CallWP C A (.builtin "len") [.str x] σ Q X := by
  intro s vs S r
  cases r with
  | cons r1 r2 =>
  cases r2
  cases r1
  exact PyProof.Rows.len_str (by omega) ⟨_, σ, h, .int _ _, S.toks _, .refl ..⟩
end

end Mine

set_option autoImplicit false
set_option linter.unusedVariables false
namespace Mine
open PySem PySem.W PySem.SeqAt

section
variable {C : Cx} {A : Around} {env : Env} {ρ : Rho} {σ : Store} {X : XP} {s : Shared}

theorem BinWP.cat {l b : Addr} {xs ys : List V} {Q : V → Store → Prop} (hl : LstAt C σ l xs) (hb : LstAt C σ b ys) (hz : xs.length + ys.length ≤ sizeLine) (h : ∀ a, σ a = none → Q (.ref a) (σ.upd a (.list (xs ++ ys)))) :
    BinWP C A .Add (.ref l) (.ref b) σ Q X := by
  intro s u v S r1 r2
  cases r1; cases r2
  obtain ⟨items, ⟨⟨c1, d1, t1, s1⟩, ho, hc, n, hd⟩, rl⟩ := hl.raw S
  obtain ⟨items2, ⟨⟨c2, d2, t2, s2⟩, ho2, hc2, n2, hd2⟩, rl2⟩ := hb.raw S
  have el := rl.length
  have el2 := rl2.length
  simp only [Array.length_toList] at el el2
  dsimp only at hc hd hc2 hd2
  subst hc hd hc2 hd2
  refine concat_meets ⟨_, ho, rfl⟩ ⟨_, ho2, rfl⟩ noFill_list_add seq_list_add PySem.F.slot_list_add PySem.F.entry_list_add (PySem.F.args_list_add_2 _ _) (PyProof.Rows.list_addW l b items items2 n n2 d1 d2 s1 s2 (by omega)) ⟨ho, ho2, ?_⟩
  obtain ⟨S2, e2⟩ := S.new (t := s.toks) (x := { cls := .type "list", data := .seq (items ++ items2) }) (o := .list (xs ++ ys)) ⟨_, ⟨0, Heap.get?_push_size _ rfl⟩, by simp only [Array.toList_append]; exact (rl.append rl2).push⟩
  exact ⟨.ref _, _, h _ S.fresh, .ref _, S2, e2⟩

/- texts -/
theorem BinWP.mul_str {x : Str} {n : Int} {Q : V → Store → Prop} (hok : MulOk x n) (h : Q (.str (Txt.mul x n)) σ) : BinWP C A .Mult (.str x) (.int n) σ Q X := by
  rintro s _ _ S ⟨⟩ ⟨⟩
  exact SB.mul hok fun _ _ => EP.pureT S h (.str _ _)
theorem CallWP.str_int {n : Int} {Q : V → Store → Prop} (hn : n.natAbs.log2 < 1920) (h : Q (.str (Str.ofString (toString n))) σ) : CallWP C A (.type "str") [.int n] σ Q X := by
  intro s vs S r
  cases r with
  | cons r1 r2 =>
  cases r2; cases r1
  exact P.str_of_int hn (EP.pureT S h (.str _ _))

/-- a list of texts -/
theorem strs_of {h : Heap} : ∀ {vs : List Value} {ts : List Str}, VRs h vs (ts.map V.str) → ∃ l : List (Str × Tok), vs = strValues l ∧ l.map (·.1) = ts
  | vs, [], r => by cases r; exact ⟨[], rfl, rfl⟩
  | vs, t :: ts, r => by
    cases r with
    | cons r1 r2 =>
    cases r1 with
    | str _ tk =>
    obtain ⟨l, rfl, rfl⟩ := strs_of r2
    exact ⟨(t, tk) :: l, rfl, rfl⟩
theorem CallWP.join {x : Str} {l : Addr} {ts : List Str} {Q : V → Store → Prop} (hl : LstAt C σ l (ts.map V.str)) (hok : JoinOk x ts = true) (h : Q (.str (Txt.join x ts)) σ) : CallWP C A (.builtin "str.join") [.str x, .ref l] σ Q X := by
  intro s vs S r
  cases r with
  | cons r1 r2 =>
  cases r2 with
  | cons r2 r3 =>
  cases r3; cases r2; cases r1
  obtain ⟨items, il, rl⟩ := hl.raw S
  obtain ⟨lt, e, et⟩ := strs_of rl
  have : items = (strValues lt).toArray := by rw [← e]
  subst this
  exact SC.join il et hok fun _ _ => EP.pureT S h (.str _ _)

/- dicts -/
theorem Ev.dict0 {pos : Pos} {Q : V → Store → Prop} (h : ∀ a, σ a = none → Q (.ref a) (σ.upd a (.sd []))) : Ev C A env (.Dict [] [] pos) ρ σ Q X := by
  intro s S F
  refine wpAny_Dict_empty ?_
  obtain ⟨S2, e2⟩ := S.new (t := s.toks) (x := { cls := .type "dict", data := .dict #[] }) (o := .sd []) ⟨[], Heap.DictOf.new _, .nil⟩
  exact ⟨.ref _, _, h _ S.fresh, .ref _, S2, e2⟩
theorem Ev.dict0i {pos : Pos} {Q : V → Store → Prop} (h : ∀ a, σ a = none → Q (.ref a) (σ.upd a (.id []))) : Ev C A env (.Dict [] [] pos) ρ σ Q X := by
  intro s S F
  refine wpAny_Dict_empty ?_
  obtain ⟨S2, e2⟩ := S.new (t := s.toks) (x := { cls := .type "dict", data := .dict #[] }) (o := .id []) ⟨[], Heap.DictOf.new _, .nil⟩
  exact ⟨.ref _, _, h _ S.fresh, .ref _, S2, e2⟩

/-- the store of an item -/
def SetWP (C : Cx) (A : Around) (o i y : V) (σ : Store) (Q : Store → Prop) (X : XP) : Prop :=
  ∀ s a b v, St C σ s → VR s.heap a o → VR s.heap b i → VR s.heap v y → wpAny C.M A (setItem a b v) (fun _ s' => ∃ σ', Q σ' ∧ St C σ' s' ∧ Evo σ s.heap σ' s'.heap) X s
theorem assign_sub (o i : Expr) (pos : Pos) (env : Env) (v : Value) : assign (.Subscript o i pos) env v = (do
    let ov ← holding [v] (eval o env)
    let iv ← holding [v, ov] (eval i env)
    standAt pos
    holding [v, ov, iv] (setItem ov iv v)
    release (match i with | .Slice _ _ none _ => [iv, v, ov] | _ => [v, ov, iv]) []) := rfl
theorem Asg.sub {o i : Expr} {pos : Pos} {y : V} {Q : Rho → Store → Prop} (h : Ev C A env o ρ σ (fun x σ1 => Ev C A env i ρ σ1 (fun z σ2 => SetWP C A x z y σ2 (fun σ3 => Q ρ σ3) X) X) X) : Asg C A env (.Subscript o i pos) y ρ σ Q X := by
  intro s v S F r
  rw [assign_sub]
  refine wpAny_bind (wpAny_holding (wpAny_mono (h s S F) ?_ fun _ _ z => z))
  rintro ov s1 ⟨x, σ1, h1, r1, S1, e1⟩
  refine wpAny_bind (wpAny_holding (wpAny_mono (h1 s1 S1 (F.evo e1)) ?_ fun _ _ z => z))
  rintro iv s2 ⟨z, σ2, h2, r2, S2, e2⟩
  refine wpAny_bind (wpAny_standAt (wpAny_bind (wpAny_holding (wpAny_mono (h2 s2 ov iv v S2 (r1.mono e2.tup) r2 ((r.mono e1.tup).mono e2.tup)) ?_ fun _ _ z => z))))
  rintro _ s3 ⟨σ3, q, S3, e3⟩
  have e := (e1.trans e2).trans e3
  exact PyProof.Rows.wpAny_release' ⟨ρ, σ3, q, S3, F.evo e, e.evoF F.own⟩

theorem SetWP.sd {d : Addr} {es : List (Str × V)} {k : Str} {y : V} {Q : Store → Prop} (hd : σ d = some (.sd es)) (hz : es.length ≤ sizeLine) (h : Q (σ.upd d (.sd (sput es k y)))) : SetWP C A (.ref d) (.str k) y σ Q X := by
  intro s a b v S ra rb rv
  cases ra; cases rb
  obtain ⟨kvs, D, pr⟩ := S.rep _ _ hd
  have hnd : (kvs.map (·.1)).Nodup := by obtain ⟨_, _, _, _, _, _, _, _, hn⟩ := D; exact hn
  refine wpAny_setItem_pairs (knd := strKind C.prog C.w) (k := k) (by show (k == k) = true; simp) D (fun h' D' sb => ?_) (by rw [pr.length]; exact hz)
  have tk : TupKeep s.heap h' := tupKeep_sameBut sb (S.rep _ _ hd).notTup
  obtain ⟨S2, e2⟩ := S.set (t := s.toks + 1) (o' := .sd (sput es k y)) hd sb ⟨_, D', PR.stored (rv.mono tk) (pr.mono tk) hnd⟩
  exact ⟨_, h, S2, e2⟩
def iput : List (Int × V) → Int → V → List (Int × V)
  | [], x, v => [(x, v)]
  | (y, u) :: r, x, v => if x = y then (x, v) :: r else (y, u) :: iput r x v
theorem PR.storedI {h : Heap} {x : Int} {v : Value} {y : V} (r : VR h v y) : ∀ {kvs : List (Int × Value)} {es : List (Int × V)}, PR h kvs es → (kvs.map (·.1)).Nodup → PR h (PySem.stored kvs x v) (iput es x y)
  | _, _, .nil, _ => by
    show PR h (PySem.stored [] x v) [(x, y)]
    simp only [PySem.stored, List.any_nil, Bool.false_eq_true, if_false, List.nil_append]
    exact .cons r .nil
  | _, _, .cons (k := k) a b, hn => by
    rw [stored_cons hn]
    unfold iput
    by_cases q : x = k
    · rw [if_pos q, if_pos q]; exact .cons r b
    · rw [if_neg q, if_neg q]; exact .cons a (PR.storedI r b (List.nodup_cons.mp hn).2)
theorem SetWP.id {d : Addr} {es : List (Int × V)} {k : Int} {y : V} {Q : Store → Prop} (hd : σ d = some (.id es)) (hz : es.length ≤ sizeLine) (h : Q (σ.upd d (.id (iput es k y)))) : SetWP C A (.ref d) (.int k) y σ Q X := by
  intro s a b v S ra rb rv
  cases ra; cases rb
  obtain ⟨kvs, D, pr⟩ := S.rep _ _ hd
  have hnd : (kvs.map (·.1)).Nodup := by obtain ⟨_, _, _, _, _, _, _, _, hn⟩ := D; exact hn
  refine wpAny_setItem_pairs (knd := intKind C.prog C.w) (k := k) (by show (k == k) = true; simp) D (fun h' D' sb => ?_) (by rw [pr.length]; exact hz)
  have tk : TupKeep s.heap h' := tupKeep_sameBut sb (S.rep _ _ hd).notTup
  obtain ⟨S2, e2⟩ := S.set (t := s.toks + 1) (o' := .id (iput es k y)) hd sb ⟨_, D', PR.storedI (rv.mono tk) (pr.mono tk) hnd⟩
  exact ⟨_, h, S2, e2⟩

/- in a dict -/
theorem St.notSys {a : Addr} {o : O} (S : St C σ s) (hn : sysModules < C.n₀) (h : σ a = some o) : (a == sysModules) = false := by
  have := S.above a o h
  exact beq_eq_false_iff_ne.mpr (fun q => by rw [q] at this; exact absurd hn (Nat.not_lt.mpr this))
theorem valueAt_isSome {K : Type} [DecidableEq K] {h : Heap} {x : K} : ∀ {kvs : List (K × Value)} {es : List (K × V)}, PR h kvs es → (valueAt kvs x).isSome = ((es.find? fun p => decide (p.1 = x)).map (·.2)).isSome
  | _, _, .nil => rfl
  | _, _, .cons (k := k) r rs => by
    unfold valueAt
    by_cases q : k = x
    · subst q; simp
    · simp only [List.find?_cons, q, decide_false]
      exact valueAt_isSome rs
theorem CmpWP.inSd {d : Addr} {es : List (Str × V)} {k : Str} {Q : V → Store → Prop} (hd : σ d = some (.sd es)) (hn : sysModules < C.n₀) (h : Q (.bool (sget es k).isSome) σ) : CmpWP C A .In (.str k) (.ref d) σ Q X := by
  intro s a b S ra rb
  cases ra; cases rb
  obtain ⟨kvs, D, pr⟩ := S.rep _ _ hd
  refine wpAny_in_of (knd := strKind C.prog C.w) (k := k) (by show (k == k) = true; simp) (S.notSys hn hd) D.mapOf (EP.pureT S ?_ (.bool _))
  rw [valueAt_isSome pr]; exact h
theorem CmpWP.inId {d : Addr} {es : List (Int × V)} {k : Int} {Q : V → Store → Prop} (hd : σ d = some (.id es)) (hn : sysModules < C.n₀) (h : Q (.bool (iget es k).isSome) σ) : CmpWP C A .In (.int k) (.ref d) σ Q X := by
  intro s a b S ra rb
  cases ra; cases rb
  obtain ⟨kvs, D, pr⟩ := S.rep _ _ hd
  refine wpAny_in_of (knd := intKind C.prog C.w) (k := k) (by show (k == k) = true; simp) (S.notSys hn hd) D.mapOf (EP.pureT S ?_ (.bool _))
  rw [valueAt_isSome pr]; exact h
theorem CmpWP.notInSd {d : Addr} {es : List (Str × V)} {k : Str} {Q : V → Store → Prop} (hd : σ d = some (.sd es)) (hn : sysModules < C.n₀) (h : Q (.bool (!(sget es k).isSome)) σ) : CmpWP C A .NotIn (.str k) (.ref d) σ Q X := by
  intro s a b S ra rb
  cases ra; cases rb
  obtain ⟨kvs, D, pr⟩ := S.rep _ _ hd
  refine wpAny_notIn_of (knd := strKind C.prog C.w) (k := k) (by show (k == k) = true; simp) (S.notSys hn hd) D.mapOf (EP.pureT S ?_ (.bool _))
  rw [valueAt_isSome pr]; exact h
theorem CmpWP.notInId {d : Addr} {es : List (Int × V)} {k : Int} {Q : V → Store → Prop} (hd : σ d = some (.id es)) (hn : sysModules < C.n₀) (h : Q (.bool (!(iget es k).isSome)) σ) : CmpWP C A .NotIn (.int k) (.ref d) σ Q X := by
  intro s a b S ra rb
  cases ra; cases rb
  obtain ⟨kvs, D, pr⟩ := S.rep _ _ hd
  refine wpAny_notIn_of (knd := intKind C.prog C.w) (k := k) (by show (k == k) = true; simp) (S.notSys hn hd) D.mapOf (EP.pureT S ?_ (.bool _))
  rw [valueAt_isSome pr]; exact h
end

end Mine

set_option autoImplicit false
set_option linter.unusedVariables false
namespace Mine
open PySem PySem.W PySem.SeqAt PyProof.Rows

theorem top_exists (h : Heap) : ∀ n, (∀ b o, h.get? b = some o → b < n) → ∃ m, (∀ b o, h.get? b = some o → b < m) ∧ ∀ k, m = k + 1 → ∃ o, h.get? k = some o
  | 0, hn => ⟨0, hn, fun k e => by cases e⟩
  | n + 1, hn => by
    cases q : h.get? n with
    | some o => exact ⟨n + 1, hn, fun k e => by cases e; exact ⟨o, q⟩⟩
    | none =>
      refine top_exists h n fun b o e => ?_
      have := hn b o e
      rcases Nat.lt_or_eq_of_le (Nat.le_of_lt_succ this) with z | z
      · exact z
      · rw [z, q] at e; cases e

theorem ints_VRs {h : Heap} : ∀ {vs : List Value} {ns : List Int}, IntsAre vs ns → VRs h vs (ns.map V.int)
  | [], ns, hI => by
    cases ns with
    | nil => exact .nil
    | cons _ _ => have := hI.length; simp at this
  | v :: vs, ns, hI => by
    cases ns with
    | nil => have := hI.length; simp at this
    | cons n ns =>
      cases hI with
      | cons _ h2 => exact .cons (.int _ _) (ints_VRs (by assumption))

/-- the law's call, in my words -/
theorem glue {prog : Program} {w : World} {s₁ : Shared} {K : Frag} {mg mb : Str → Option Value} {l fa : Addr} {vs : List Value} {ns : List Int} (KX : K.In s₁.heap) (hg : s₁.heap.Ns mainGlobals mg) (hb : s₁.heap.Ns builtinsNs mb)
    (hbl : ∀ x : Str, x ≠ "__name__" → mb x = bootBuiltins x) (lim : s₁.heap.NoLimit) (gens : s₁.gens = #[]) (hl : s₁.heap.IsList l vs.toArray) (hI : IntsAre vs ns)
    (h : ∀ C : Cx, C.prog = prog → C.w = w → C.K = K → sysModules < C.n₀ → BaseL C l (ns.map V.int) → CallWP C callerA (.ref fa) [.ref l] (fun _ => none) (fun v _ => v = .bool true) (fun _ _ => False)) :
    wpAny (model prog w) callerA (call (.ref fa) [.ref l]) (fun v s' => v = .bool true ∧ (∀ b o, s₁.heap.get? b = some o → s'.heap.get? b = some o) ∧ s'.os = s₁.os ∧ s'.gens = #[]) (fun _ _ => False) s₁ := by
  obtain ⟨n, hn1, hn2⟩ := top_exists s₁.heap s₁.heap.objs.size fun b o e => Heap.lt_size e
  have h0 : sysModules < n := by
    obtain ⟨o, es, ep, ho, _⟩ := hg
    have := hn1 _ _ ho
    exact Nat.lt_trans (by decide) this
  have := h ⟨prog, w, s₁.heap, s₁.gens, s₁.os, n, hn1, hn2, K, KX, mg, mb, hg, hb, hbl, lim⟩ rfl rfl rfl h0 ⟨vs.toArray, hl, by simpa using ints_VRs hI⟩ s₁ [.ref l]
    ⟨fun _ _ e => e, fun _ _ e => (nomatch e), fun _ _ e => (nomatch e), rfl, rfl⟩ (.cons (.ref _) .nil)
  refine wpAny_mono this ?_ fun _ _ z => z
  rintro v s' ⟨x, σ', rfl, r, S, e⟩
  cases r
  exact ⟨rfl, S.base, S.os, S.gens.trans gens⟩
end Mine

set_option autoImplicit false
set_option linter.unusedVariables false
namespace Mine
open PySem PySem.W PySem.SeqAt PyProof.Rows

section
variable {C : Cx} {A : Around} {env : Env} {ρ : Rho} {σ : Store} {X : XP} {s : Shared}

theorem ofS_ne {a b : String} (h : a ≠ b) : Str.ofString a ≠ Str.ofString b := by
  intro e
  rw [Str.ofString_eq_toList, Str.ofString_eq_toList] at e
  injection e with e
  have e1 : a.toList.map Char.toNat = b.toList.map Char.toNat := by
    have := congrArg Array.toList e; simpa using this
  have inj : Function.Injective Char.toNat := fun x y hxy => by
    have : x.val.toNat = y.val.toNat := hxy
    exact Char.ext (UInt32.toNat_inj.mp this)
  have e2 : a.toList = b.toList := by
    have : ∀ (l m : List Char), l.map Char.toNat = m.map Char.toNat → l = m := by
      intro l
      induction l with
      | nil => intro m hm; cases m with | nil => rfl | cons _ _ => simp at hm
      | cons x l ih =>
        intro m hm
        cases m with
        | nil => simp at hm
        | cons y m =>
          simp only [List.map_cons, List.cons.injEq] at hm
          rw [inj hm.1, ih m hm.2]
    exact this _ _ e1
  exact h (by rw [← String.ofList_toList (s := a), ← String.ofList_toList (s := b), e2])

/-- a call of a def of the text -/
theorem CallWP.fnK {f : Addr} {name qual : Str} {params : Arguments} {body : List Stmt} {scope : Scope} {dV kV doc pm cdv ct oc : Value} {an od : Option Addr} {osl : Array (Option Value)} {names : List Str} {args : List V} {Q : V → Store → Prop}
    (ho : C.K.lookup f = some ⟨oc, od, .func (fnOf name qual params body scope dV kV doc pm an cdv ct), osl⟩) (hcd : codeIn C.K cdv qual = true)
    (hroom : A.depth < recursionLimit)
    (h : ∀ L, Exs C (A.deeper (callEnvC (fnOf name qual params body scope dV kV doc pm an cdv ct) L f)) (callEnvC (fnOf name qual params body scope dV kV doc pm an cdv ct) L f) body (names.zip args) σ (fun g _ σ' => Q g.val σ') (fun _ _ => False))
    (hbind : ∀ vals : List Value, vals.length = args.length → bindArgs (fnOf name qual params body scope dV kV doc pm an cdv ct) ⟨vals, []⟩ = pure (names.zip vals)) (nd : names.Nodup)
    (hkind : (names.all fun y => scope.names.lookup y == some .local || scope.names.lookup y == some .cell) = true) (hsc : scopeOk scope = true) (hco : scope.isCoroutine = false) (hgen : scope.isGenerator = false) (hk : scope.kind = .function) :
    CallWP C A (.ref f) args σ Q X := by
  refine CallWP.fn (C.KX _ _ ho) rfl C.lim (codeRec_of C.KX hcd) rfl hbind rfl nd (fun x hx => ?_) hroom hsc hco hgen hk h
  have := List.all_eq_true.mp hkind x hx
  rcases Bool.or_eq_true_iff.mp this with q | q
  · exact .inl (by simpa using q)
  · have q' : scope.names.lookup x = some .cell := by simpa using q
    exact .inr ⟨q', fun L => cellsFrom_some _ _ _ (.inl q')⟩
end
end Mine

set_option autoImplicit false
set_option linter.unusedVariables false
namespace Mine
open PySem PySem.W PySem.SeqAt PyProof.Rows

/-- a frame's surroundings, its table of names apart -/
abbrev mkE (sc : Scope) (L : Addr) (cells : List (Str × Addr)) (q : Str) (fn : Option Addr) (cd : Value) (fr : Option Addr) : Env :=
  { scope := sc, locals := L, globals := mainGlobals, cells := cells, qual := q, func := fn, code := cd, frame := fr, builtins := builtinsNs }
/-- a comprehension's table of names -/
def reS (scope sc : Scope) : Scope := { scope with names := scope.names.map fun (n, k) => if (k == .free && sc.kind == .function && sc.names.lookup n == some .cell) then (n, .cell) else (n, k) }
theorem compEnvC_mkE (scope sc : Scope) (cl cells : List (Str × Addr)) (L L' : Addr) (q : Str) (fn : Option Addr) (cd : Value) (fr : Option Addr) : compEnvC scope cl L' (mkE sc L cells q fn cd fr) = mkE (reS scope sc) L' cl q none cd fr := rfl
theorem callEnvC_mkE (name qual : Str) (params : Arguments) (body : List Stmt) (scope : Scope) (dV kV doc pm cdv ct : Value) (an : Option Addr) (L f : Addr) :
    callEnvC (fnOf name qual params body scope dV kV doc pm an cdv ct) L f = mkE scope L (cellsFrom (L + 1) scope.names []) (qual ++ ".<locals>.") (some f) cdv (some L) := rfl

section
variable {C : Cx} {A : Around} {ρ : Rho} {σ : Store} {X : XP} {s : Shared} {sc : Scope} {L : Addr} {cells : List (Str × Addr)} {q : Str} {fn : Option Addr} {cd : Value} {fr : Option Addr}

theorem Ev.nloc {x : Str} {pos : Pos} {v : V} {Q : V → Store → Prop} (hk : sc.names.lookup x = some .local) (hv : ρ.get x = some v) (h : Q v σ) (hd : (x == ("__debug__" : Str)) = false := by kernel_rfl) : Ev C A (mkE sc L cells q fn cd fr) (.Name x pos) ρ σ Q X :=
  Ev.loc hk hv h hd
theorem Ev.ncel {x : Str} {pos : Pos} {v : V} {Q : V → Store → Prop} (hk : sc.names.lookup x = some .cell) (hv : ρ.get x = some v) (h : Q v σ) (hc : (cells.lookup x).isSome = true := by kernel_rfl) (hd : (x == ("__debug__" : Str)) = false := by kernel_rfl) : Ev C A (mkE sc L cells q fn cd fr) (.Name x pos) ρ σ Q X := by
  obtain ⟨c, hc⟩ := Option.isSome_iff_exists.mp hc
  exact Ev.cel hk hc hv h hd
theorem Ev.nglob {x : Str} {pos : Pos} {v : Value} {y : V} {Q : V → Store → Prop} (hk : sc.names.lookup x = some .globalImplicit) (e : nsIn C.K mainGlobals x = some (some v)) (r : VR C.h₀ v y) (h : Q y σ) (hd : (x == ("__debug__" : Str)) = false := by kernel_rfl) :
    Ev C A (mkE sc L cells q fn cd fr) (.Name x pos) ρ σ Q X := Ev.glob hk e r h rfl hd
theorem Ev.nblt {x : Str} {pos : Pos} {v : Value} {y : V} {Q : V → Store → Prop} (hk : sc.names.lookup x = some .globalImplicit) (e : nsIn C.K mainGlobals x = some none) (hv : bootBuiltins x = some v) (r : VR C.h₀ v y) (h : Q y σ) (hn : x ≠ "__name__") (hd : (x == ("__debug__" : Str)) = false := by kernel_rfl) :
    Ev C A (mkE sc L cells q fn cd fr) (.Name x pos) ρ σ Q X := Ev.gblt hk e hv r h hn rfl rfl hd
theorem Asg.nloc {x : Str} {pos : Pos} {y : V} {ρ' : Rho} {Q : Rho → Store → Prop} (hk : sc.names.lookup x = some .local) (hp : ρ.put x y = ρ') (h : Q ρ' σ) (hc : cells.lookup x = none := by kernel_rfl) :
    Asg C A (mkE sc L cells q fn cd fr) (.Name x pos) y ρ σ Q X := Asg.loc hk hc hp h
theorem Asg.ncel {x : Str} {pos : Pos} {y : V} {ρ' : Rho} {Q : Rho → Store → Prop} (hk : sc.names.lookup x = some .cell) (hp : ρ.put x y = ρ') (h : Q ρ' σ) (hc : (cells.lookup x).isSome = true := by kernel_rfl) :
    Asg C A (mkE sc L cells q fn cd fr) (.Name x pos) y ρ σ Q X := by
  obtain ⟨c, hc⟩ := Option.isSome_iff_exists.mp hc
  exact Asg.cel hk hc hp h

theorem Then.next {env : Env} {ss : List Stmt} {Q : FV → Rho → Store → Prop} (h : Exs C A env ss ρ σ Q X) : Then C A env ss Q X .next ρ σ := h
theorem Then.ret {env : Env} {ss : List Stmt} {v : V} {Q : FV → Rho → Store → Prop} (h : Q (.ret v) ρ σ) : Then C A env ss Q X (.ret v) ρ σ := h
theorem Then.cont {env : Env} {ss : List Stmt} {Q : FV → Rho → Store → Prop} (h : Q .cont ρ σ) : Then C A env ss Q X .cont ρ σ := h
theorem Then.brk {env : Env} {ss : List Stmt} {Q : FV → Rho → Store → Prop} (h : Q .brk ρ σ) : Then C A env ss Q X .brk ρ σ := h

/-- a call of a def of the text -/
theorem CallWP.def {f : Addr} {name qual : Str} {params : Arguments} {body : List Stmt} {scope : Scope} {dV kV doc pm cdv ct oc : Value} {an od : Option Addr} {osl : Array (Option Value)} (names : List Str) {args : List V} {Q : V → Store → Prop}
    (ho : C.K.lookup f = some ⟨oc, od, .func (fnOf name qual params body scope dV kV doc pm an cdv ct), osl⟩) (hcd : codeIn C.K cdv qual = true)
    (hroom : A.depth < recursionLimit)
    (hbind : ∀ vals : List Value, vals.length = args.length → bindArgs (fnOf name qual params body scope dV kV doc pm an cdv ct) ⟨vals, []⟩ = pure (names.zip vals)) (nd : names.Nodup)
    (hkind : (names.all fun y => scope.names.lookup y == some .local || scope.names.lookup y == some .cell) = true) (hsc : scopeOk scope = true) (hco : scope.isCoroutine = false) (hgen : scope.isGenerator = false) (hk : scope.kind = .function)
    (h : ∀ L A', A'.handled = A.handled → A'.depth = A.depth + 1 → A'.units = A.units + 3 → Exs C A' (mkE scope L (cellsFrom (L + 1) scope.names []) (qual ++ ".<locals>.") (some f) cdv (some L)) body (names.zip args) σ (fun g _ σ' => Q g.val σ') (fun _ _ => False)) :
    CallWP C A (.ref f) args σ Q X :=
  CallWP.fnK ho hcd hroom (fun L => h L _ rfl rfl rfl) hbind nd hkind hsc hco hgen hk

/-- a comprehension -/
theorem Ev.lcomp {x : Str} {px pos : Pos} {elt iter : Expr} {ifs : List Expr} {scope : Scope} {ρc : Rho} {Q : V → Store → Prop} (cap : Capt ρ scope.names ρc) (hx : scope.names.lookup x = some .local) (hck : compOk scope = true) (hk : scope.kind = .function)
    (h : Src C A (mkE sc L cells q fn cd fr) (.Name x px) iter ρ σ (fun xs ok σ1 => ∀ L', CmpL C A (mkE (reS scope sc) L' (clOf cells scope.names []) q none cd fr) x ifs elt ok ρc (fun out σ2 => ∀ a, σ2 a = Option.none → Q (.ref a) (σ2.upd a (.list out))) xs [] σ1) X)
    (hfree : (scope.names.all fun p => p.2 != .free || (cells.lookup p.1).isSome) = true := by kernel_rfl) 
    (hs : ∀ x, foldedSetIterable iter (mkE sc L cells q fn cd fr) x = Pure.pure x := by intro _; kernel_rfl) : Ev C A (mkE sc L cells q fn cd fr) (.ListComp elt [⟨.Name x px, iter, ifs, 0⟩] scope pos) ρ σ Q X :=
  Ev.comp hfree hck hk hx cap h hs
theorem Ex.lassign {x y : Str} {px py pos spos : Pos} {elt iter : Expr} {ifs : List Expr} {scope : Scope} {ρc : Rho} {Q : FV → Rho → Store → Prop} (cap : Capt ρ scope.names ρc) (hx : scope.names.lookup x = some .local) (hck : compOk scope = true) (hk : scope.kind = .function)
    (hy : sc.names.lookup y = some .local)
    (h : Src C A (mkE sc L cells q fn cd fr) (.Name x px) iter ρ σ (fun xs ok σ1 => ∀ L', CmpL C A (mkE (reS scope sc) L' (clOf cells scope.names []) q none cd fr) x ifs elt ok ρc (fun out σ2 => ∀ a, σ2 a = none → Q .next (ρ.put y (.ref a)) (σ2.upd a (.list out))) xs [] σ1) X)
    (hsw : swapsWith (.ListComp elt [⟨.Name x px, iter, ifs, 0⟩] scope pos) (some (.Name y py)) spos.line (mkE sc L cells q fn cd fr) = pure true := by kernel_rfl)
    (hfree : (scope.names.all fun p => p.2 != .free || (cells.lookup p.1).isSome) = true := by kernel_rfl) (hyc : cells.lookup y = none := by kernel_rfl)
    (hs : ∀ x, foldedSetIterable iter (mkE sc L cells q fn cd fr) x = pure x := by intro _; kernel_rfl) : Ex C A (mkE sc L cells q fn cd fr) (.Assign [.Name y py] (.ListComp elt [⟨.Name x px, iter, ifs, 0⟩] scope pos) spos) ρ σ Q X :=
  Ex.assignComp hfree hck hk hx cap hy hyc h hsw hs

/-- f(args): f a def or a class of the text -/
theorem Ev.callR {func : Expr} {args : List Expr} {pos : Pos} {Q : V → Store → Prop} {env : Env}
    (h : Ev C A env func ρ σ (fun fx σ1 => ∃ f, fx = .ref f ∧ keepIn C.K (.ref f) = true ∧ Ags C A env pos args ρ σ1 (fun xs σ2 => CallWP C A (.ref f) xs σ2 Q X) X) X)
    (hev : eval (.Call func args [] pos) env = (do callWith pos (← eval func env) [] (backTo pos (starEach args env)) (backToKw pos (keywordEach [] env))) := by kernel_rfl)
    (he : (backTo pos (starEach args env)).any (·.1) = false := by kernel_rfl) : Ev C A env (.Call func args [] pos) ρ σ Q X := by
  intro s S F
  rw [hev]
  refine wpAny_bind (wpAny_mono (h s S F) ?_ fun _ _ z => z)
  rintro v s1 ⟨x, σ1, ⟨f, rfl, kp, q⟩, r1, S1, e1⟩
  cases r1
  exact wpAny_mono (callWith_mine (first := []) (fx := []) (Kp.ref kp) S1 (F.evo e1) .nil q he) (fun _ _ z => z.after e1) fun _ _ z => z
/-- f(args): f a built-in, or a built-in class -/
theorem Ev.callB {func : Expr} {args : List Expr} {pos : Pos} {Q : V → Store → Prop} {env : Env}
    (h : Ev C A env func ρ σ (fun fx σ1 => ∃ f, (fx = .blt f ∧ Ags C A env pos args ρ σ1 (fun xs σ2 => CallWP C A (.builtin f) xs σ2 Q X) X) ∨ (fx = .typ f ∧ Ags C A env pos args ρ σ1 (fun xs σ2 => CallWP C A (.type f) xs σ2 Q X) X)) X)
    (hev : eval (.Call func args [] pos) env = (do callWith pos (← eval func env) [] (backTo pos (starEach args env)) (backToKw pos (keywordEach [] env))) := by kernel_rfl)
    (he : (backTo pos (starEach args env)).any (·.1) = false := by kernel_rfl) : Ev C A env (.Call func args [] pos) ρ σ Q X := by
  intro s S F
  rw [hev]
  refine wpAny_bind (wpAny_mono (h s S F) ?_ fun _ _ z => z)
  rintro v s1 ⟨x, σ1, ⟨f, (⟨rfl, q⟩ | ⟨rfl, q⟩)⟩, r1, S1, e1⟩
  · cases r1
    exact wpAny_mono (callWith_mine (first := []) (fx := []) Kp.blt S1 (F.evo e1) .nil q he) (fun _ _ z => z.after e1) fun _ _ z => z
  · cases r1
    exact wpAny_mono (callWith_mine (first := []) (fx := []) Kp.typ S1 (F.evo e1) .nil q he) (fun _ _ z => z.after e1) fun _ _ z => z
end
end Mine
namespace Mine
open PySem PySem.W
theorem CmpL.pure {C : Cx} {A : Around} {env : Env} {x : Str} {ifs : List Expr} {elt : Expr} {ok : Store → Prop} {ρ : Rho} {R : List V → Store → Prop} {σ : Store} (p : V → Bool) (f : V → V) (hok : ok σ) :
    ∀ (ys out : List V), (∀ y ∈ ys, ∀ Q : Bool → Store → Prop, Q (p y) σ → Ifs C A env ifs (ρ.put x y) σ Q (fun _ _ => False)) → (∀ y ∈ ys, p y = true → ∀ Q : V → Store → Prop, Q (f y) σ → Ev C A env elt (ρ.put x y) σ Q (fun _ _ => False)) →
    out.length + ys.length ≤ sizeLine → R (out ++ (ys.filter p).map f) σ → CmpL C A env x ifs elt ok ρ R ys out σ
  | [], out, _, _, _, h => by simpa [CmpL] using h
  | y :: ys, out, h1, h2, hz, h => by
    unfold CmpL
    refine h1 y (.head _) _ ?_
    simp only [List.length_cons] at hz
    cases q : p y with
    | true =>
      simp only [if_true]
      refine h2 y (.head _) q _ ⟨by omega, hok, ?_⟩
      refine CmpL.pure p f hok ys (out ++ [f y]) (fun z hz => h1 z (.tail _ hz)) (fun z hz => h2 z (.tail _ hz)) (by simp; omega) ?_
      simpa [List.filter_cons, q] using h
    | false =>
      simp only [Bool.false_eq_true, if_false]
      refine ⟨hok, CmpL.pure p f hok ys out (fun z hz => h1 z (.tail _ hz)) (fun z hz => h2 z (.tail _ hz)) (by omega) ?_⟩
      simpa [List.filter_cons, q] using h
theorem Ifs.nil {C : Cx} {A : Around} {env : Env} {ρ : Rho} {σ : Store} {X : XP} {Q : Bool → Store → Prop} (h : Q true σ) : Ifs C A env [] ρ σ Q X := h
theorem Ifs.one {C : Cx} {A : Around} {env : Env} {ρ : Rho} {σ : Store} {X : XP} {c : Expr} {Q : Bool → Store → Prop} (h : Tst C A env c ρ σ Q X) : Ifs C A env [c] ρ σ Q X := h
end Mine

/- arities -/
namespace Mine
open PySem PySem.W PySem.SeqAt PyProof.Rows
section
variable {C : Cx} {A : Around} {σ : Store} {X : XP}
theorem CallWP.def0 {f : Addr} {name qual : Str} {params : Arguments} {body : List Stmt} {scope : Scope} {dV kV doc pm cdv ct oc : Value} {an od : Option Addr} {osl : Array (Option Value)} {Q : V → Store → Prop}
    (ho : C.K.lookup f = some ⟨oc, od, .func (fnOf name qual params body scope dV kV doc pm an cdv ct), osl⟩) (hcd : codeIn C.K cdv qual = true) (hroom : A.depth < recursionLimit)
    (hbind : bindArgs (fnOf name qual params body scope dV kV doc pm an cdv ct) ⟨[], []⟩ = pure []) (nd : ([] : List Str).Nodup)
    (hkind : (([] : List Str).all fun y => scope.names.lookup y == some .local || scope.names.lookup y == some .cell) = true) (hsc : scopeOk scope = true) (hco : scope.isCoroutine = false) (hgen : scope.isGenerator = false) (hk : scope.kind = .function)
    (h : ∀ L A', A'.handled = A.handled → A'.depth = A.depth + 1 → A'.units = A.units + 3 → Exs C A' (mkE scope L (cellsFrom (L + 1) scope.names []) (qual ++ ".<locals>.") (some f) cdv (some L)) body [] σ (fun g _ σ' => Q g.val σ') (fun _ _ => False)) :
    CallWP C A (.ref f) [] σ Q X :=
  CallWP.def [] (args := []) ho hcd hroom (fun vals hl => by match vals, hl with | [], _ => exact hbind ) nd hkind hsc hco hgen hk h
theorem CallWP.def1 (x1 : Str) {f : Addr} {name qual : Str} {params : Arguments} {body : List Stmt} {scope : Scope} {dV kV doc pm cdv ct oc : Value} {an od : Option Addr} {osl : Array (Option Value)} {v1 : V} {Q : V → Store → Prop}
    (ho : C.K.lookup f = some ⟨oc, od, .func (fnOf name qual params body scope dV kV doc pm an cdv ct), osl⟩) (hcd : codeIn C.K cdv qual = true) (hroom : A.depth < recursionLimit)
    (hbind : ∀ u1 : Value, bindArgs (fnOf name qual params body scope dV kV doc pm an cdv ct) ⟨[u1], []⟩ = pure [(x1, u1)]) (nd : ([x1] : List Str).Nodup)
    (hkind : (([x1] : List Str).all fun y => scope.names.lookup y == some .local || scope.names.lookup y == some .cell) = true) (hsc : scopeOk scope = true) (hco : scope.isCoroutine = false) (hgen : scope.isGenerator = false) (hk : scope.kind = .function)
    (h : ∀ L A', A'.handled = A.handled → A'.depth = A.depth + 1 → A'.units = A.units + 3 → Exs C A' (mkE scope L (cellsFrom (L + 1) scope.names []) (qual ++ ".<locals>.") (some f) cdv (some L)) body [(x1, v1)] σ (fun g _ σ' => Q g.val σ') (fun _ _ => False)) :
    CallWP C A (.ref f) [v1] σ Q X :=
  CallWP.def [x1] (args := [v1]) ho hcd hroom (fun vals hl => by match vals, hl with | [u1], _ => exact hbind u1) nd hkind hsc hco hgen hk h
theorem CallWP.def2 (x1 x2 : Str) {f : Addr} {name qual : Str} {params : Arguments} {body : List Stmt} {scope : Scope} {dV kV doc pm cdv ct oc : Value} {an od : Option Addr} {osl : Array (Option Value)} {v1 v2 : V} {Q : V → Store → Prop}
    (ho : C.K.lookup f = some ⟨oc, od, .func (fnOf name qual params body scope dV kV doc pm an cdv ct), osl⟩) (hcd : codeIn C.K cdv qual = true) (hroom : A.depth < recursionLimit)
    (hbind : ∀ u1 u2 : Value, bindArgs (fnOf name qual params body scope dV kV doc pm an cdv ct) ⟨[u1, u2], []⟩ = pure [(x1, u1), (x2, u2)]) (nd : ([x1, x2] : List Str).Nodup)
    (hkind : (([x1, x2] : List Str).all fun y => scope.names.lookup y == some .local || scope.names.lookup y == some .cell) = true) (hsc : scopeOk scope = true) (hco : scope.isCoroutine = false) (hgen : scope.isGenerator = false) (hk : scope.kind = .function)
    (h : ∀ L A', A'.handled = A.handled → A'.depth = A.depth + 1 → A'.units = A.units + 3 → Exs C A' (mkE scope L (cellsFrom (L + 1) scope.names []) (qual ++ ".<locals>.") (some f) cdv (some L)) body [(x1, v1), (x2, v2)] σ (fun g _ σ' => Q g.val σ') (fun _ _ => False)) :
    CallWP C A (.ref f) [v1, v2] σ Q X :=
  CallWP.def [x1, x2] (args := [v1, v2]) ho hcd hroom (fun vals hl => by match vals, hl with | [u1, u2], _ => exact hbind u1 u2) nd hkind hsc hco hgen hk h
theorem CallWP.def3 (x1 x2 x3 : Str) {f : Addr} {name qual : Str} {params : Arguments} {body : List Stmt} {scope : Scope} {dV kV doc pm cdv ct oc : Value} {an od : Option Addr} {osl : Array (Option Value)} {v1 v2 v3 : V} {Q : V → Store → Prop}
    (ho : C.K.lookup f = some ⟨oc, od, .func (fnOf name qual params body scope dV kV doc pm an cdv ct), osl⟩) (hcd : codeIn C.K cdv qual = true) (hroom : A.depth < recursionLimit)
    (hbind : ∀ u1 u2 u3 : Value, bindArgs (fnOf name qual params body scope dV kV doc pm an cdv ct) ⟨[u1, u2, u3], []⟩ = pure [(x1, u1), (x2, u2), (x3, u3)]) (nd : ([x1, x2, x3] : List Str).Nodup)
    (hkind : (([x1, x2, x3] : List Str).all fun y => scope.names.lookup y == some .local || scope.names.lookup y == some .cell) = true) (hsc : scopeOk scope = true) (hco : scope.isCoroutine = false) (hgen : scope.isGenerator = false) (hk : scope.kind = .function)
    (h : ∀ L A', A'.handled = A.handled → A'.depth = A.depth + 1 → A'.units = A.units + 3 → Exs C A' (mkE scope L (cellsFrom (L + 1) scope.names []) (qual ++ ".<locals>.") (some f) cdv (some L)) body [(x1, v1), (x2, v2), (x3, v3)] σ (fun g _ σ' => Q g.val σ') (fun _ _ => False)) :
    CallWP C A (.ref f) [v1, v2, v3] σ Q X :=
  CallWP.def [x1, x2, x3] (args := [v1, v2, v3]) ho hcd hroom (fun vals hl => by match vals, hl with | [u1, u2, u3], _ => exact hbind u1 u2 u3) nd hkind hsc hco hgen hk h
theorem CallWP.def4 (x1 x2 x3 x4 : Str) {f : Addr} {name qual : Str} {params : Arguments} {body : List Stmt} {scope : Scope} {dV kV doc pm cdv ct oc : Value} {an od : Option Addr} {osl : Array (Option Value)} {v1 v2 v3 v4 : V} {Q : V → Store → Prop}
    (ho : C.K.lookup f = some ⟨oc, od, .func (fnOf name qual params body scope dV kV doc pm an cdv ct), osl⟩) (hcd : codeIn C.K cdv qual = true) (hroom : A.depth < recursionLimit)
    (hbind : ∀ u1 u2 u3 u4 : Value, bindArgs (fnOf name qual params body scope dV kV doc pm an cdv ct) ⟨[u1, u2, u3, u4], []⟩ = pure [(x1, u1), (x2, u2), (x3, u3), (x4, u4)]) (nd : ([x1, x2, x3, x4] : List Str).Nodup)
    (hkind : (([x1, x2, x3, x4] : List Str).all fun y => scope.names.lookup y == some .local || scope.names.lookup y == some .cell) = true) (hsc : scopeOk scope = true) (hco : scope.isCoroutine = false) (hgen : scope.isGenerator = false) (hk : scope.kind = .function)
    (h : ∀ L A', A'.handled = A.handled → A'.depth = A.depth + 1 → A'.units = A.units + 3 → Exs C A' (mkE scope L (cellsFrom (L + 1) scope.names []) (qual ++ ".<locals>.") (some f) cdv (some L)) body [(x1, v1), (x2, v2), (x3, v3), (x4, v4)] σ (fun g _ σ' => Q g.val σ') (fun _ _ => False)) :
    CallWP C A (.ref f) [v1, v2, v3, v4] σ Q X :=
  CallWP.def [x1, x2, x3, x4] (args := [v1, v2, v3, v4]) ho hcd hroom (fun vals hl => by match vals, hl with | [u1, u2, u3, u4], _ => exact hbind u1 u2 u3 u4) nd hkind hsc hco hgen hk h
theorem CallWP.def5 (x1 x2 x3 x4 x5 : Str) {f : Addr} {name qual : Str} {params : Arguments} {body : List Stmt} {scope : Scope} {dV kV doc pm cdv ct oc : Value} {an od : Option Addr} {osl : Array (Option Value)} {v1 v2 v3 v4 v5 : V} {Q : V → Store → Prop}
    (ho : C.K.lookup f = some ⟨oc, od, .func (fnOf name qual params body scope dV kV doc pm an cdv ct), osl⟩) (hcd : codeIn C.K cdv qual = true) (hroom : A.depth < recursionLimit)
    (hbind : ∀ u1 u2 u3 u4 u5 : Value, bindArgs (fnOf name qual params body scope dV kV doc pm an cdv ct) ⟨[u1, u2, u3, u4, u5], []⟩ = pure [(x1, u1), (x2, u2), (x3, u3), (x4, u4), (x5, u5)]) (nd : ([x1, x2, x3, x4, x5] : List Str).Nodup)
    (hkind : (([x1, x2, x3, x4, x5] : List Str).all fun y => scope.names.lookup y == some .local || scope.names.lookup y == some .cell) = true) (hsc : scopeOk scope = true) (hco : scope.isCoroutine = false) (hgen : scope.isGenerator = false) (hk : scope.kind = .function)
    (h : ∀ L A', A'.handled = A.handled → A'.depth = A.depth + 1 → A'.units = A.units + 3 → Exs C A' (mkE scope L (cellsFrom (L + 1) scope.names []) (qual ++ ".<locals>.") (some f) cdv (some L)) body [(x1, v1), (x2, v2), (x3, v3), (x4, v4), (x5, v5)] σ (fun g _ σ' => Q g.val σ') (fun _ _ => False)) :
    CallWP C A (.ref f) [v1, v2, v3, v4, v5] σ Q X :=
  CallWP.def [x1, x2, x3, x4, x5] (args := [v1, v2, v3, v4, v5]) ho hcd hroom (fun vals hl => by match vals, hl with | [u1, u2, u3, u4, u5], _ => exact hbind u1 u2 u3 u4 u5) nd hkind hsc hco hgen hk h
theorem CallWP.def6 (x1 x2 x3 x4 x5 x6 : Str) {f : Addr} {name qual : Str} {params : Arguments} {body : List Stmt} {scope : Scope} {dV kV doc pm cdv ct oc : Value} {an od : Option Addr} {osl : Array (Option Value)} {v1 v2 v3 v4 v5 v6 : V} {Q : V → Store → Prop}
    (ho : C.K.lookup f = some ⟨oc, od, .func (fnOf name qual params body scope dV kV doc pm an cdv ct), osl⟩) (hcd : codeIn C.K cdv qual = true) (hroom : A.depth < recursionLimit)
    (hbind : ∀ u1 u2 u3 u4 u5 u6 : Value, bindArgs (fnOf name qual params body scope dV kV doc pm an cdv ct) ⟨[u1, u2, u3, u4, u5, u6], []⟩ = pure [(x1, u1), (x2, u2), (x3, u3), (x4, u4), (x5, u5), (x6, u6)]) (nd : ([x1, x2, x3, x4, x5, x6] : List Str).Nodup)
    (hkind : (([x1, x2, x3, x4, x5, x6] : List Str).all fun y => scope.names.lookup y == some .local || scope.names.lookup y == some .cell) = true) (hsc : scopeOk scope = true) (hco : scope.isCoroutine = false) (hgen : scope.isGenerator = false) (hk : scope.kind = .function)
    (h : ∀ L A', A'.handled = A.handled → A'.depth = A.depth + 1 → A'.units = A.units + 3 → Exs C A' (mkE scope L (cellsFrom (L + 1) scope.names []) (qual ++ ".<locals>.") (some f) cdv (some L)) body [(x1, v1), (x2, v2), (x3, v3), (x4, v4), (x5, v5), (x6, v6)] σ (fun g _ σ' => Q g.val σ') (fun _ _ => False)) :
    CallWP C A (.ref f) [v1, v2, v3, v4, v5, v6] σ Q X :=
  CallWP.def [x1, x2, x3, x4, x5, x6] (args := [v1, v2, v3, v4, v5, v6]) ho hcd hroom (fun vals hl => by match vals, hl with | [u1, u2, u3, u4, u5, u6], _ => exact hbind u1 u2 u3 u4 u5 u6) nd hkind hsc hco hgen hk h
theorem CallWP.def7 (x1 x2 x3 x4 x5 x6 x7 : Str) {f : Addr} {name qual : Str} {params : Arguments} {body : List Stmt} {scope : Scope} {dV kV doc pm cdv ct oc : Value} {an od : Option Addr} {osl : Array (Option Value)} {v1 v2 v3 v4 v5 v6 v7 : V} {Q : V → Store → Prop}
    (ho : C.K.lookup f = some ⟨oc, od, .func (fnOf name qual params body scope dV kV doc pm an cdv ct), osl⟩) (hcd : codeIn C.K cdv qual = true) (hroom : A.depth < recursionLimit)
    (hbind : ∀ u1 u2 u3 u4 u5 u6 u7 : Value, bindArgs (fnOf name qual params body scope dV kV doc pm an cdv ct) ⟨[u1, u2, u3, u4, u5, u6, u7], []⟩ = pure [(x1, u1), (x2, u2), (x3, u3), (x4, u4), (x5, u5), (x6, u6), (x7, u7)]) (nd : ([x1, x2, x3, x4, x5, x6, x7] : List Str).Nodup)
    (hkind : (([x1, x2, x3, x4, x5, x6, x7] : List Str).all fun y => scope.names.lookup y == some .local || scope.names.lookup y == some .cell) = true) (hsc : scopeOk scope = true) (hco : scope.isCoroutine = false) (hgen : scope.isGenerator = false) (hk : scope.kind = .function)
    (h : ∀ L A', A'.handled = A.handled → A'.depth = A.depth + 1 → A'.units = A.units + 3 → Exs C A' (mkE scope L (cellsFrom (L + 1) scope.names []) (qual ++ ".<locals>.") (some f) cdv (some L)) body [(x1, v1), (x2, v2), (x3, v3), (x4, v4), (x5, v5), (x6, v6), (x7, v7)] σ (fun g _ σ' => Q g.val σ') (fun _ _ => False)) :
    CallWP C A (.ref f) [v1, v2, v3, v4, v5, v6, v7] σ Q X :=
  CallWP.def [x1, x2, x3, x4, x5, x6, x7] (args := [v1, v2, v3, v4, v5, v6, v7]) ho hcd hroom (fun vals hl => by match vals, hl with | [u1, u2, u3, u4, u5, u6, u7], _ => exact hbind u1 u2 u3 u4 u5 u6 u7) nd hkind hsc hco hgen hk h
end
end Mine

set_option autoImplicit false
set_option linter.unusedVariables false
namespace Mine
open PySem PySem.W PySem.SeqAt PyProof.Rows

theorem Rho.gp_hit {x : Str} {v : V} {r : Rho} : Rho.get (Rho.put r x v) x = some v := by rw [Rho.get_put]; simp
theorem Rho.gp_miss {x y : Str} {v : V} {u : Option V} {r : Rho} (h : y ≠ x) (k : Rho.get r y = u) : Rho.get (Rho.put r x v) y = u := by rw [Rho.get_put, if_neg h, k]

theorem stored_nd {K : Type} [DecidableEq K] (acc : List (K × Value)) (k : K) (v : Value) (n : (acc.map (·.1)).Nodup) : ((stored acc k v).map (·.1)).Nodup := by
  unfold stored
  split
  · have : (acc.map fun kv => if kv.1 = k then (kv.1, v) else kv).map (·.1) = acc.map (·.1) := by
      rw [List.map_map]; apply List.map_congr_left; intro a _; simp only [Function.comp]; split <;> rfl
    rw [this]; exact n
  · rename_i q
    rw [List.map_append, List.nodup_append]
    refine ⟨n, by simp, ?_⟩
    intro a ha b hb e
    simp only [List.map_cons, List.map_nil, List.mem_singleton] at hb
    obtain ⟨p, hp, rfl⟩ := List.mem_map.mp ha
    exact q (List.any_eq_true.mpr ⟨p, hp, by simpa using e.trans hb⟩)
section
variable {C : Cx} {A : Around} {env : Env} {ρ : Rho} {σ : Store} {X : XP} {s : Shared}

/- {"a": .., "b": ..} -/
inductive KVR (h : Heap) : List (Value × Value) → List (Str × V) → Prop
  | nil : KVR h [] []
  | cons {k : Str} {t : Tok} {v : Value} {x : V} {r : List (Value × Value)} {r' : List (Str × V)} : VR h v x → KVR h r r' → KVR h ((.str k t, v) :: r) ((k, x) :: r')
def Prs (C : Cx) (A : Around) (env : Env) (pos : Pos) (ks : List (Option Expr)) (vs : List Expr) (ρ : Rho) (σ : Store) (Q : List (Str × V) → Store → Prop) (X : XP) : Prop :=
  ∀ s, St C σ s → Fm C σ s.heap env ρ → wpAny C.M A (evalPairs (pairTrees ks vs env pos)) (fun r s' => ∃ xs σ', Q xs σ' ∧ KVR s'.heap r xs ∧ St C σ' s' ∧ Evo σ s.heap σ' s'.heap) X s
theorem Prs.nil {pos : Pos} {Q : List (Str × V) → Store → Prop} (h : Q [] σ) : Prs C A env pos [] [] ρ σ Q X :=
  fun s S F => pairTrees_nil_walk ⟨[], σ, h, .nil, S, .refl ..⟩
theorem KVR.merged (C : Cx) {h : Heap} : ∀ {r : List (Value × Value)} {xs : List (Str × V)}, KVR h r xs → ∃ kvs : List (Str × Value), Carries (strKind C.prog C.w) r kvs ∧ kvs.length = xs.length ∧
    ∀ acc es, PR h acc es → (acc.map (·.1)).Nodup → PR h (PySem.merged acc kvs) (xs.foldl (fun e p => sput e p.1 p.2) es)
  | _, _, .nil => ⟨[], trivial, rfl, fun acc es p _ => p⟩
  | _, _, .cons (k := k) (t := t) (v := v) a b => by
    obtain ⟨kvs, c, l, m⟩ := KVR.merged C b
    refine ⟨(k, v) :: kvs, ⟨by show (k == k) = true; simp, rfl, c⟩, by simp [l], fun acc es p n => ?_⟩
    have := m (stored acc k v) _ (PR.stored a p n) (stored_nd _ _ _ n)
    simpa [PySem.merged] using this
theorem KVR.mono {h h' : Heap} (k : TupKeep h h') : ∀ {r : List (Value × Value)} {xs : List (Str × V)}, KVR h r xs → KVR h' r xs
  | _, _, .nil => .nil
  | _, _, .cons a b => .cons (a.mono k) (b.mono k)
theorem Prs.cons {pos cp : Pos} {k : Str} {lit : Const} {kn : Nat} {v : Expr} {ks : List (Option Expr)} {vs : List Expr} {Q : List (Str × V) → Store → Prop}
    (h : Ev C A env (.Constant lit kn cp) ρ σ (fun x σ0 => x = .str k ∧ Ev C A env v ρ σ0 (fun y σ1 => Prs C A env pos ks vs ρ σ1 (fun xs σ2 => Q ((k, y) :: xs) σ2) X) X) X) :
    Prs C A env pos (some (.Constant lit kn cp) :: ks) (v :: vs) ρ σ Q X := by
  intro s S F
  refine pairTrees_cons_walk (wpAny_mono (h s S F) ?_ fun _ _ z => z)
  rintro w0 s0 ⟨x0, σ0, ⟨rfl, h0⟩, r0, S0, e0⟩
  refine wpAny_mono (h0 s0 S0 (F.evo e0)) ?_ fun _ _ z => z
  rintro w1 s1 ⟨x1, σ1, h1, r1, S1, e1⟩
  refine wpAny_mono (h1 s1 S1 ((F.evo e0).evo e1)) ?_ fun _ _ z => z
  rintro r s2 ⟨xs, σ2, h2, r2, S2, e2⟩
  cases r0
  exact ⟨_, σ2, h2, .cons (r1.mono e2.tup) r2, S2, (e0.trans e1).trans e2⟩
theorem Prs.str {pos cp : Pos} {k : Str} {kn : Nat} {v : Expr} {ks : List (Option Expr)} {vs : List Expr} {Q : List (Str × V) → Store → Prop}
    (h : Ev C A env v ρ σ (fun y σ1 => Prs C A env pos ks vs ρ σ1 (fun xs σ2 => Q ((k, y) :: xs) σ2) X) X) : Prs C A env pos (some (.Constant (.str k) kn cp) :: ks) (v :: vs) ρ σ Q X :=
  Prs.cons (Ev.cstr ⟨rfl, h⟩)
theorem Ev.dictS {pos : Pos} {ks : List (Option Expr)} {vs : List Expr} {Q : V → Store → Prop} (hall : ks.all (·.isSome) = true) (hl : ks.length = vs.length) (h0 : ks ≠ []) (hlen : ks.length ≤ 15)
    (h : ∀ a, σ a = none → Prs C A env pos ks vs ρ (σ.upd a (.sd [])) (fun es σ1 => σ1 a = some (.sd []) ∧ Q (.ref a) (σ1.upd a (.sd (es.foldl (fun e p => sput e p.1 p.2) [])))) X) :
    Ev C A env (.Dict ks vs pos) ρ σ Q X := by
  intro s S F
  obtain ⟨S2, e2⟩ := S.new (t := s.toks) (x := { cls := .type "dict", data := .dict #[] }) (o := .sd []) ⟨[], Heap.DictOf.new _, .nil⟩
  refine wpAny_Dict_walk (knd := strKind C.prog C.w) hall hl h0 hlen (wpAny_mono (h _ S.fresh _ S2 (F.evo e2)) ?_ fun _ _ z => z)
  rintro r s3 ⟨xs, σ3, ⟨h3, q⟩, r3, S3, e3⟩
  obtain ⟨kvs, c, l, m⟩ := KVR.merged C r3
  obtain ⟨kv0, D, p0⟩ := S3.rep _ _ h3
  cases p0
  refine ⟨kvs, c, D, fun h' D' sb => ?_⟩
  have tk : TupKeep s3.heap h' := tupKeep_sameBut sb (S3.rep _ _ h3).notTup
  obtain ⟨S4, e4⟩ := S3.set (t := s3.toks + r.length) (o' := .sd (xs.foldl (fun e p => sput e p.1 p.2) [])) h3 sb ⟨_, D', (m [] [] .nil List.nodup_nil).mono tk⟩
  exact ⟨.ref _, _, q, .ref _, S4, (e2.trans e3).trans e4⟩

/- pop() -/
theorem CallWP.pop {l : Addr} {xs : List V} {y : V} {Q : V → Store → Prop} (hl : σ l = some (.list (xs ++ [y]))) (hz : xs.length < sizeLine)
    (h : Q y (σ.upd l (.list xs))) : CallWP C A (.builtin "list.pop") [.ref l] σ Q X := by
  intro s vs S r
  cases r with
  | cons r1 r2 =>
  cases r2; cases r1
  obtain ⟨items, ⟨n, e⟩, rl⟩ := S.rep _ _ hl
  have el := rl.length
  simp only [Array.length_toList, List.length_append, List.length_singleton] at el
  have hj : (xs ++ [y])[xs.length]? = some y := by simp
  obtain ⟨u, hu, ru⟩ := rl.get hj
  have hu' : items[items.size - 1]? = some u := by rw [el]; simpa using hu
  refine call_meets F.slot_list_pop ⟨_, e, rfl⟩ F.entry_list_pop (F.args_list_pop_1 _) (MeetsSeq.list_pop_last l items n u hu' (by omega)) ⟨e, ?_⟩
  obtain ⟨S', e'⟩ := upd_list (f := fun x => x.eraseIdxIfInBounds (items.size - 1)) S hl e (ys := xs) (by
    have hj' : items.size - 1 < items.size := by omega
    have : (items.eraseIdxIfInBounds (items.size - 1)).toList = items.toList.eraseIdx (items.size - 1) := by
      simp [Array.eraseIdxIfInBounds, hj', Array.toList_eraseIdx]
    rw [this, el]
    have := rl.erase xs.length
    have e2 : (xs ++ [y]).eraseIdx xs.length = xs := by rw [List.eraseIdx_append_of_length_le (Nat.le_refl _)]; simp
    rw [e2] at this; simpa using this)
  exact ⟨y, _, h, ru.mono e'.tup, S', e'⟩

/- all(), any() over a list of truths -/
theorem kept_it {h' : Heap} {o : Obj} (hk : ∀ b x, b ∉ [s.heap.objs.size] → (s.heap.push o).get? b = some x → h'.get? b = some x) : ∀ b x, s.heap.get? b = some x → h'.get? b = some x :=
  fun b x e => hk b x (fun hm => by rw [List.mem_singleton.mp hm] at e; exact Nat.lt_irrefl _ (Heap.lt_size e)) (Heap.get?_push_of_some _ e)
theorem bools_get {h : Heap} {vs : List Value} {bs : List Bool} (r : VRs h vs (bs.map V.bool)) {i : Nat} {v : Value} (e : vs[i]? = some v) : ∃ b, bs[i]? = some b ∧ v = .bool b := by
  have hl := r.length
  have : i < vs.length := (List.getElem?_eq_some_iff.mp e).1
  have hb : i < bs.length := by simpa [hl] using this
  obtain ⟨u, hu, ru⟩ := r.get (show (bs.map V.bool)[i]? = some (V.bool bs[i]) by simp [hb])
  rw [hu] at e; cases e
  cases ru
  exact ⟨bs[i], by simp [hb], rfl⟩
theorem CallWP.all {l : Addr} {bs : List Bool} {Q : V → Store → Prop} (hh : A.handled = none) (hl : LstAt C σ l (bs.map V.bool)) (h : Q (.bool (bs.all id)) σ) : CallWP C A (.builtin "all") [.ref l] σ Q X := by
  intro s vs S r
  cases r with
  | cons r1 r2 =>
  cases r2; cases r1
  obtain ⟨items, il, rl⟩ := hl.raw S
  have el := rl.length
  simp only [Array.length_toList, List.length_map] at el
  have hlt : l < s.heap.objs.size := by obtain ⟨_, e, _⟩ := il; exact Heap.lt_size e
  refine call_all_walk (wpAny_pyIter_list il ?_)
  refine ⟨s.heap.objs.size, [s.heap.objs.size, l], [s.heap.objs.size], items.size, _, _, fun i => (bs[i]?).getD true, rfl, Walks.list (A := A.in1) hh _ l (Nat.ne_of_lt hlt) items,
    ⟨⟨_, Heap.get?_push_size _ rfl, rfl, rfl⟩, il.push _⟩, fun i v s' Q' E' hP hQ => ?_, fun h' tk hk => ?_⟩
  · obtain ⟨b, e, rfl⟩ := bools_get rl (by simpa using hP)
    simp only [e, Option.getD_some] at hQ
    exact wpAny_truthy_bool hQ
  · have e : ((List.range items.size).all fun i => (bs[i]?).getD true) = bs.all id := by
      rw [el]; exact PyProof.Rows.LSm.range_all bs
    rw [e]
    exact ⟨_, σ, h, .bool _, S.ext (kept_it hk), .ext (kept_it hk)⟩
theorem CallWP.any {l : Addr} {bs : List Bool} {Q : V → Store → Prop} (hh : A.handled = none) (hl : LstAt C σ l (bs.map V.bool)) (h : Q (.bool (bs.any id)) σ) : CallWP C A (.builtin "any") [.ref l] σ Q X := by
  intro s vs S r
  cases r with
  | cons r1 r2 =>
  cases r2; cases r1
  obtain ⟨items, il, rl⟩ := hl.raw S
  have el := rl.length
  simp only [Array.length_toList, List.length_map] at el
  have hlt : l < s.heap.objs.size := by obtain ⟨_, e, _⟩ := il; exact Heap.lt_size e
  refine call_any_walk (wpAny_pyIter_list il ?_)
  refine ⟨s.heap.objs.size, [s.heap.objs.size, l], [s.heap.objs.size], items.size, _, _, fun i => (bs[i]?).getD false, rfl, Walks.list (A := A.in1) hh _ l (Nat.ne_of_lt hlt) items,
    ⟨⟨_, Heap.get?_push_size _ rfl, rfl, rfl⟩, il.push _⟩, fun i v s' Q' E' hP hQ => ?_, fun h' tk hk => ?_⟩
  · obtain ⟨b, e, rfl⟩ := bools_get rl (by simpa using hP)
    simp only [e, Option.getD_some] at hQ
    exact wpAny_truthy_bool hQ
  · have e : ((List.range items.size).any fun i => (bs[i]?).getD false) = bs.any id := by
      rw [el]; exact PyProof.Rows.LSm.range_any bs
    rw [e]
    exact ⟨_, σ, h, .bool _, S.ext (kept_it hk), .ext (kept_it hk)⟩

theorem small_le {n : Nat} (h : Nat.ble n sizeLine = true) : n ≤ sizeLine := Nat.le_of_ble_eq_true h
theorem Szs.mk {xs : List V} {P : Prop} (h : xs.length ≤ sizeLine) (k : P) : xs.length ≤ sizeLine ∧ P := ⟨h, k⟩
theorem Br.t {b : Bool} {p q : Prop} (hb : b = true) (h : p) : if b = true then p else q := by rw [if_pos hb]; exact h
theorem Br.f {b : Bool} {p q : Prop} (hb : b = false) (h : q) : if b = true then p else q := by rw [if_neg (by simp [hb])]; exact h
theorem ItemWP.tup0 {x : V} {xs : List V} {Q : V → Store → Prop} (h : Q x σ) : ItemWP C A (.tup (x :: xs)) (.int 0) σ Q X :=
  ItemWP.tup (j := 0) (by decide) (by decide) (by rw [seqIndex_of (by omega) (by simp)]; rfl) rfl h
theorem ItemWP.tup1 {x y : V} {xs : List V} {Q : V → Store → Prop} (h : Q x σ) : ItemWP C A (.tup (y :: x :: xs)) (.int 1) σ Q X :=
  ItemWP.tup (j := 1) (by decide) (by decide) (by rw [seqIndex_of (by omega) (by simp; omega)]; rfl) rfl h
theorem ItemWP.tup2 {x y z : V} {xs : List V} {Q : V → Store → Prop} (h : Q x σ) : ItemWP C A (.tup (y :: z :: x :: xs)) (.int 2) σ Q X :=
  ItemWP.tup (j := 2) (by decide) (by decide) (by rw [seqIndex_of (by omega) (by simp; omega)]; rfl) rfl h
theorem ItemWP.tup3 {x y z u : V} {xs : List V} {Q : V → Store → Prop} (h : Q x σ) : ItemWP C A (.tup (y :: z :: u :: x :: xs)) (.int 3) σ Q X :=
  ItemWP.tup (j := 3) (by decide) (by decide) (by rw [seqIndex_of (by omega) (by simp; omega)]; rfl) rfl h
theorem ItemWP.tup4 {x y z u w : V} {xs : List V} {Q : V → Store → Prop} (h : Q x σ) : ItemWP C A (.tup (y :: z :: u :: w :: x :: xs)) (.int 4) σ Q X :=
  ItemWP.tup (j := 4) (by decide) (by decide) (by rw [seqIndex_of (by omega) (by simp; omega)]; rfl) rfl h
theorem ItemWP.last {l : Addr} {xs : List V} {y : V} {Q : V → Store → Prop} (hl : LstAt C σ l (xs ++ [y])) (h : Q y σ) : ItemWP C A (.ref l) (.int (-1)) σ Q X :=
  ItemWP.listNeg hl (by decide) (by simp; omega) (by decide) (by
    have : ((-1 : Int) + ((xs ++ [y]).length : Int)).toNat = xs.length := by simp; omega
    rw [this]; simp) h
end
end Mine

set_option autoImplicit false
set_option linter.unusedVariables false
namespace Mine
open PySem PySem.W PySem.SeqAt PyProof.Rows

/- stores -/
def Grow (σ σ' : Store) : Prop := ∀ b o, σ b = some o → σ' b = some o
theorem Grow.rfl' {σ : Store} : Grow σ σ := fun _ _ e => e
theorem Grow.trans {σ1 σ2 σ3 : Store} (a : Grow σ1 σ2) (b : Grow σ2 σ3) : Grow σ1 σ3 := fun x o e => b x o (a x o e)
theorem Store.hit {σ : Store} {a : Addr} {o : O} : (σ.upd a o) a = some o := by simp [Store.upd]
theorem Store.miss {σ : Store} {a b : Addr} {o : O} {r : Option O} (h : b ≠ a) (k : σ b = r) : (σ.upd a o) b = r := by simp [Store.upd, h, k]
theorem Store.at_fresh {σ : Store} {a b : Addr} {o o' : O} (h : σ a = none) (k : σ b = some o') : (σ.upd a o) b = some o' := Store.miss (fun e => by rw [e, h] at k; cases k) k
theorem Grow.fresh {σ σ' : Store} {a : Addr} {o : O} (g : Grow σ σ') (h : σ' a = none) : Grow σ (σ'.upd a o) := fun b o' e => Store.at_fresh h (g b o' e)
theorem Grow.upd {σ σ' : Store} {a : Addr} {o : O} (g : Grow σ σ') (h : σ a = none) : Grow σ (σ'.upd a o) := fun b o' e => Store.miss (fun q => by rw [q, h] at e; cases e) (g b o' e)
theorem Grow.none {σ σ' : Store} {a : Addr} (g : Grow σ σ') (h : σ' a = none) : σ a = none := by
  cases q : σ a with
  | none => rfl
  | some o => rw [g a o q] at h; cases h

section
variable {C : Cx} {A : Around} {env : Env} {ρ : Rho} {σ : Store} {X : XP} {s : Shared}
theorem Asg.mono {t : Expr} {x : V} {Q Q' : Rho → Store → Prop} (h : Asg C A env t x ρ σ Q X) (k : ∀ ρ σ, Q ρ σ → Q' ρ σ) : Asg C A env t x ρ σ Q' X := by
  intro s v S F r
  refine wpAny_mono (h s v S F r) ?_ fun _ _ z => z
  rintro _ s1 ⟨ρ1, σ1, q, rest⟩
  exact ⟨ρ1, σ1, k _ _ q, rest⟩

theorem TyGo.mk {x : V} {T : String} {P : Prop} (h : TyV C σ x T) (k : P) : TyV C σ x T ∧ P := ⟨h, k⟩
theorem Eqs.mk {x y : V} {P : Prop} (h : x = y) (k : P) : x = y ∧ P := ⟨h, k⟩
theorem LstAt.st {l : Addr} {xs : List V} (h : σ l = some (.list xs)) : LstAt C σ l xs := .inl h
/-- what a loop's body owes -/
def LpQ (ok : Store → Prop) (J : Rho → Store → Prop) (Q : FV → Rho → Store → Prop) (g : FV) (ρ : Rho) (σ : Store) : Prop :=
  match g with
  | .next | .cont => ok σ ∧ J ρ σ
  | .brk => Q .next ρ σ
  | .ret v => Q (.ret v) ρ σ
theorem LpQ.n {ok : Store → Prop} {J : Rho → Store → Prop} {Q : FV → Rho → Store → Prop} (h : ok σ ∧ J ρ σ) : LpQ ok J Q .next ρ σ := h
theorem LpQ.c {ok : Store → Prop} {J : Rho → Store → Prop} {Q : FV → Rho → Store → Prop} (h : ok σ ∧ J ρ σ) : LpQ ok J Q .cont ρ σ := h
theorem LpQ.b {ok : Store → Prop} {J : Rho → Store → Prop} {Q : FV → Rho → Store → Prop} (h : Q .next ρ σ) : LpQ ok J Q .brk ρ σ := h
theorem LpQ.r {ok : Store → Prop} {J : Rho → Store → Prop} {Q : FV → Rho → Store → Prop} {v : V} (h : Q (.ret v) ρ σ) : LpQ ok J Q (.ret v) ρ σ := h

theorem ForL.inv {α : Type} {target : Expr} {body : List Stmt} {ok : Store → Prop} {Q : FV → Rho → Store → Prop} (enc : α → V) (I : List α → Rho → Store → Prop)
    (step : ∀ x xs ρ σ, I (x :: xs) ρ σ → Asg C A env target (enc x) ρ σ (fun ρ1 σ1 => Exs C A env body ρ1 σ1 (LpQ ok (I xs) Q) (fun _ _ => False)) (fun _ _ => False))
    (done : ∀ ρ σ, I [] ρ σ → Q .next ρ σ) : ∀ xs ρ σ, I xs ρ σ → ForL C A env target body ok Q (xs.map enc) ρ σ
  | [], ρ, σ, h => done ρ σ h
  | x :: xs, ρ, σ, h => by
    refine (step x xs ρ σ h).mono fun ρ1 σ1 h1 => h1.mono fun g ρ2 σ2 h2 => ?_
    cases g with
    | next => exact ⟨h2.1, ForL.inv enc I step done xs ρ2 σ2 h2.2⟩
    | cont => exact ⟨h2.1, ForL.inv enc I step done xs ρ2 σ2 h2.2⟩
    | brk => exact h2
    | ret v => exact h2

theorem Ev.mono' {e : Expr} {Q Q' : V → Store → Prop} (h : Ev C A env e ρ σ Q X) (k : ∀ x σ, Q x σ → Q' x σ) : Ev C A env e ρ σ Q' X := by
  intro s S F
  refine wpAny_mono (h s S F) ?_ fun _ _ z => z
  rintro _ s1 ⟨x, σ1, q, rest⟩
  exact ⟨x, σ1, k _ _ q, rest⟩
theorem CmpL.inv {α : Type} {x : Str} {elt : Expr} {ok : Store → Prop} {R : List V → Store → Prop} (enc : α → V) (I : List α → List V → Store → Prop)
    (step : ∀ y ys out σ, I (y :: ys) out σ → Ev C A env elt (ρ.put x (enc y)) σ (fun z σ2 => out.length ≤ sizeLine ∧ ok σ2 ∧ I ys (out ++ [z]) σ2) (fun _ _ => False))
    (done : ∀ out σ, I [] out σ → R out σ) : ∀ ys out σ, I ys out σ → CmpL C A env x [] elt ok ρ R (ys.map enc) out σ
  | [], out, σ, h => done out σ h
  | y :: ys, out, σ, h => by
    unfold CmpL
    exact Ifs.nil ((step y ys out σ h).mono' fun z σ2 h2 => ⟨h2.1, h2.2.1, CmpL.inv enc I step done ys _ σ2 h2.2.2⟩)
end
end Mine

set_option autoImplicit false
set_option linter.unusedVariables false
namespace Mine
open PySem PySem.W PySem.SeqAt PyProof.Rows

/- texts: their length and their code points -/
theorem strOk_iff {x : Str} : PySem.PyData.strOk x = true ↔ ∀ c ∈ x.cps.toList, c < 0x110000 := by
  unfold PySem.PyData.strOk
  rw [Array.all_eq_true_iff_forall_mem]
  simp
theorem strOk_append {a b : Str} (ha : PySem.PyData.strOk a = true) (hb : PySem.PyData.strOk b = true) : PySem.PyData.strOk (a ++ b) = true := by
  rw [strOk_iff] at *
  intro c hc
  have : (a ++ b).cps = a.cps ++ b.cps := rfl
  rw [this, Array.toList_append, List.mem_append] at hc
  exact hc.elim (ha c) (hb c)
theorem strOk_ofString (s : String) : PySem.PyData.strOk (Str.ofString s) = true := by
  rw [strOk_iff]
  intro c hc
  rw [Str.ofString_eq_toList] at hc
  simp only [List.mem_map, List.toList_toArray] at hc
  obtain ⟨d, _, rfl⟩ := hc
  have := d.valid
  simp only [UInt32.isValidChar, Nat.isValidChar] at this
  simp only [Char.toNat]
  omega
theorem strOk_one {c : Nat} (h : c < 0x110000) : PySem.PyData.strOk ⟨#[c]⟩ = true := by rw [strOk_iff]; simpa using h
theorem strOk_empty : PySem.PyData.strOk Str.empty = true := by rw [strOk_iff]; intro c hc; simp [Str.empty] at hc
theorem rep_cps (x : Array Nat) : ∀ n, ((List.replicate n x).foldl (· ++ ·) #[]).size = n * x.size ∧ ∀ c ∈ ((List.replicate n x).foldl (· ++ ·) #[]).toList, c ∈ x.toList := by
  have gen : ∀ n (acc : Array Nat), ((List.replicate n x).foldl (· ++ ·) acc).size = acc.size + n * x.size ∧ ∀ c ∈ ((List.replicate n x).foldl (· ++ ·) acc).toList, c ∈ acc.toList ∨ c ∈ x.toList := by
    intro n
    induction n with
    | zero => intro acc; simp; exact fun c hc => .inl hc
    | succ n ih =>
      intro acc
      rw [List.replicate_succ, List.foldl_cons]
      obtain ⟨i1, i2⟩ := ih (acc ++ x)
      refine ⟨by rw [i1, Array.size_append, Nat.succ_mul]; omega, fun c hc => ?_⟩
      rcases i2 c hc with q | q
      · rw [Array.toList_append, List.mem_append] at q; exact q
      · exact .inr q
  intro n
  obtain ⟨a, b⟩ := gen n #[]
  exact ⟨by simpa using a, fun c hc => (b c hc).elim (fun z => by simp at z) id⟩
theorem mul_length {x : Str} {n : Nat} : (Txt.mul x n).length = n * x.length := by
  unfold Txt.mul
  split
  · have : n = 0 := by omega
    subst this; simp [Str.empty, Str.length]
  · split
    · rename_i h1 h2
      simp only [Bool.or_eq_true, beq_iff_eq] at h2
      rcases h2 with h2 | h2
      · have : n = 1 := by omega
        subst this; simp
      · simp [h2]
    · simpa [Str.length] using (rep_cps x.cps n).1
theorem strOk_mul {x : Str} {n : Nat} (h : PySem.PyData.strOk x = true) : PySem.PyData.strOk (Txt.mul x n) = true := by
  unfold Txt.mul
  split
  · exact strOk_empty
  · split
    · exact h
    · rw [strOk_iff] at *
      intro c hc
      exact h c ((rep_cps x.cps n).2 c (by simpa using hc))
theorem mulOk_small {x : Str} {n : Nat} (hx : x.length ≤ 16) (hn : n ≤ 100000) : MulOk x n := by
  refine ⟨?_, ?_, ?_⟩
  · simp only [Bool.or_eq_false_iff, decide_eq_false_iff_not]
    constructor <;> omega
  · intro h1 _ h2
    have : (n : Int) ≤ 100000 := by omega
    have hp : (0 : Int) < n := by omega
    have : (16 : Int) ≤ (2 ^ 63 - 1) / (n : Int) := by
      rw [Int.le_ediv_iff_mul_le hp]; omega
    omega
  · intro _ _
    unfold Builtin.Str.tooLong
    have e := sizeLine_eq
    have : x.length * n ≤ 16 * 100000 := Nat.mul_le_mul hx hn
    simp only [Int.toNat_natCast, decide_eq_false_iff_not]
    omega
theorem strOk_join {ts : List Str} (h : ∀ t ∈ ts, PySem.PyData.strOk t = true) : PySem.PyData.strOk (Txt.join Str.empty ts) = true := by
  show PySem.PyData.strOk (Builtin.Str.glued Str.empty ts) = true
  rw [StrLaws.glued_eq_join]
  match ts with
  | [] => exact strOk_empty
  | [x] => exact h x (by simp)
  | x :: y :: r =>
    show PySem.PyData.strOk (x ++ Str.empty ++ Str.join Str.empty (y :: r)) = true
    have ih := strOk_join (ts := y :: r) fun t ht => h t (by simp at ht ⊢; exact .inr ht)
    have e : Txt.join Str.empty (y :: r) = Str.join Str.empty (y :: r) := StrLaws.glued_eq_join _ _
    rw [e] at ih
    exact strOk_append (strOk_append (h x (by simp)) strOk_empty) ih
theorem digits_short : ∀ n : Nat, n < 100 → (Str.ofString (toString (n : Int))).length ≤ 2 := by decide +kernel
theorem join_len {ts : List Str} {B : Nat} (hB : ∀ y ∈ ts, y.length ≤ B) : (Txt.join Str.empty ts).length ≤ ts.length * B := by
  show (Builtin.Str.glued Str.empty ts).length ≤ _
  rw [StrLaws.glued_eq_join]
  have h1 := StrLaws.join_length_le Str.empty ts
  have h2 := StrLaws.sumLen_le ts hB
  have : Str.empty.length = 0 := rfl
  rw [this] at h1; omega
theorem joinOk_of {ts : List Str} {B : Nat} (hB : ∀ y ∈ ts, y.length ≤ B) (h : ts.length * B ≤ 16777216) : JoinOk Str.empty ts = true := by
  unfold JoinOk
  rw [StrLaws.joinFits hB (by have : Str.empty.length = 0 := rfl; rw [this]; omega)]; rfl
end Mine

namespace Mine
open PySem PySem.W PySem.SeqAt PyProof.Rows
section
variable {C : Cx} {A : Around} {σ : Store} {X : XP}
theorem sget_hit {x : Str} {v : V} {r : List (Str × V)} : sget ((x, v) :: r) x = some v := by simp [sget]
theorem sget_miss {x y : Str} {u : V} {v : Option V} {r : List (Str × V)} (h : x ≠ y) (k : sget r x = v) : sget ((y, u) :: r) x = v := by
  subst k; have h' : ¬ y = x := fun e => h e.symm
  simp [sget, h']
theorem CallWP.range1 {n : Int} {Q : V → Store → Prop} (h : Q (.rng 0 n) σ) : CallWP C A (.type "range") [.int n] σ Q X := by
  intro s vs S r
  cases r with
  | cons r1 r2 =>
  cases r2; cases r1
  exact call_range_1 ⟨.rng 0 n, σ, h, .rng (IsRange.new _ _ _ _ _ _ _), S.push, .push⟩
theorem CallWP.range2 {a b : Int} {Q : V → Store → Prop} (h : Q (.rng a b) σ) : CallWP C A (.type "range") [.int a, .int b] σ Q X := by
  intro s vs S r
  cases r with
  | cons r1 r2 =>
  cases r2 with
  | cons r2 r3 =>
  cases r3; cases r1; cases r2
  exact call_range_2 ⟨.rng a b, σ, h, .rng (IsRange.new _ _ _ _ _ _ _), S.push, .push⟩
theorem intMul_l {a b : Int} (h1 : -(2 ^ 64) < a) (h2 : a < 2 ^ 64) : IntMulOk a b := IntMulOk.of_left (intBits_le_64 h1 h2)
theorem intMul_r {a b : Int} (h1 : -(2 ^ 64) < b) (h2 : b < 2 ^ 64) : IntMulOk a b := IntMulOk.of_right (intBits_le_64 h1 h2)
end
end Mine

set_option autoImplicit false
set_option linter.unusedVariables false
namespace Mine
open PySem PySem.W PySem.SeqAt PyProof.Rows
section
variable {C : Cx} {A : Around} {σ : Store} {X : XP}
/- plain data -/
theorem DRs.map {α : Type} {f : α → V} {g : α → PyData} : ∀ {xs : List α}, (∀ x ∈ xs, DR C σ (f x) (g x)) → DRs C σ (xs.map f) (xs.map g)
  | [], _ => .nil
  | x :: xs, h => .cons (h x (.head _)) (DRs.map fun y hy => h y (.tail _ hy))
theorem canLayAll_map {α : Type} {g : α → PyData} : ∀ {xs : List α}, (∀ x ∈ xs, (g x).canLay0 = true) → PyData.canLayAll0 (xs.map g) = true
  | [], _ => by simp [PyData.canLayAll0]
  | x :: xs, h => by simp [PyData.canLayAll0, h x (.head _), canLayAll_map fun y hy => h y (.tail _ hy)]
theorem depthAll_map {α : Type} {g : α → PyData} {k : Nat} : ∀ {xs : List α}, (∀ x ∈ xs, (g x).depth ≤ k) → PyData.depthAll (xs.map g) ≤ k
  | [], _ => by simp [PyData.depthAll]
  | x :: xs, h => by
    have h1 := h x (.head _)
    have h2 := depthAll_map (xs := xs) fun y hy => h y (.tail _ hy)
    simp only [List.map_cons, PyData.depthAll]; omega
theorem CmpWP.eqSame {x y : V} {d : PyData} {Q : V → Store → Prop} (hx : DR C σ x d) (hy : DR C σ y d) (h1 : d.canLay0 = true) (hu : A.units + d.depth < cLine) (h : Q (.bool true) σ) : CmpWP C A .Eq x y σ Q X :=
  CmpWP.eq hx hy h1 h1 (by omega) (by rw [eqv_refl d h1]; exact h)
theorem CmpWP.neSame {x y : V} {d : PyData} {Q : V → Store → Prop} (hx : DR C σ x d) (hy : DR C σ y d) (h1 : d.canLay0 = true) (hu : A.units + d.depth < cLine) (h : Q (.bool false) σ) : CmpWP C A .NotEq x y σ Q X :=
  CmpWP.ne hx hy h1 h1 (by omega) (by rw [eqv_refl d h1]; exact h)
theorem isi_t {x : V} {t : Ty} {U : String} {Q : V → Store → Prop} (ht : HasTy C σ x t) (hU : (U = "int" ∨ U = "bool" ∨ U = "str" ∨ U = "list" ∨ U = "tuple")) {b : Bool} (hb : isiB t U = b) (h : Q (.bool b) σ) : CallWP C A (.builtin "isinstance") [x, .typ U] σ Q X :=
  CallWP.isi ht hU (by rw [hb]; exact h)
end
end Mine

set_option autoImplicit false
set_option linter.unusedVariables false
namespace Mine
open PySem PySem.W PySem.SeqAt PyProof.Rows
section
variable {C : Cx} {A : Around} {env : Env} {ρ : Rho} {σ : Store} {X : XP} {s : Shared}
/- a, b, c = x, y, z -/
def AsgN (C : Cx) (A : Around) (env : Env) (ns : List Str) (xs : List V) (ρ : Rho) (σ : Store) (Q : Rho → Store → Prop) (X : XP) : Prop :=
  ∀ s vs, St C σ s → Fm C σ s.heap env ρ → VRs s.heap vs xs → wpAny C.M A (assignInOrder (ns.map fun n => bindName env n) vs) (fun _ s' => ∃ ρ' σ', Q ρ' σ' ∧ St C σ' s' ∧ Fm C σ' s'.heap env ρ' ∧ EvoF env σ s.heap σ' s'.heap) X s
theorem AsgN.nil {Q : Rho → Store → Prop} (h : Q ρ σ) : AsgN C A env [] [] ρ σ Q X :=
  fun s vs S F r => by cases r; exact wpAny_pure ⟨ρ, σ, h, S, F, .refl _⟩
theorem AsgN.cons {x : Str} {ns : List Str} {y : V} {ys : List V} {Q : Rho → Store → Prop} (hk : env.kindOf x = some .local) (hc : env.cells.lookup x = none) (h : AsgN C A env ns ys (ρ.put x y) σ Q X) : AsgN C A env (x :: ns) (y :: ys) ρ σ Q X := by
  intro s vs S F r
  cases r with
  | cons r1 r2 =>
    obtain ⟨m, hm, f⟩ := F.loc
    refine wpAny_assignInOrder_more (PyProof.Rows.bindName_ (wpAny_storeName_local hk hm (fun h' hn hs => ?_) (by rw [F.fn]; rfl)))
    obtain ⟨a, b, c⟩ := Fm.storeLocal (h := s.heap) (t := s.toks + 1) S F hk hm f hn hs r1 hc
    refine wpAny_mono (h _ _ a b (r2.mono c.tup)) ?_ fun _ _ z => z
    rintro _ s2 ⟨ρ2, σ2, q2, S2, F2, e2⟩
    exact ⟨ρ2, σ2, q2, S2, F2, c.trans e2⟩
theorem Ex.assignSw {elts : List Expr} {k : Nat} {tpos : Pos} {value : Expr} {pos : Pos} {names : List Str} {Q : FV → Rho → Store → Prop} (hh : A.handled = none)
    (h : Ev C A env value ρ σ (fun v σ1 => ∃ xs, v = .tup xs ∧ names.length = xs.length ∧ AsgN C A env names.reverse xs.reverse ρ σ1 (fun ρ' σ' => Q .next ρ' σ') X) X)
    (hs : swapsWithSole [.Tuple elts k tpos] value pos.line env = pure false) (hw : swappedStores [.Tuple elts k tpos] value env = pure (some names)) : Ex C A env (.Assign [.Tuple elts k tpos] value pos) ρ σ Q X := by
  intro s S F
  refine Assign_Tuple_swapped (wpAny_mono (h s S F) ?_ fun _ _ z => z) hs hw
  rintro v s1 ⟨x, σ1, ⟨xs, rfl, hn, h1⟩, r1, S1, e1⟩
  cases r1 with
  | @tup a items n _ ha hr =>
  have en : names.length = items.size := by rw [hn, ← hr.length]; simp
  rw [en]
  refine unpackItems_tuple hh ⟨_, ha, rfl, n, rfl⟩ fun h' he => ?_
  have kk : ∀ b o, s1.heap.get? b = some o → h'.get? b = some o := fun b o e => he b o (Nat.ne_of_lt (Heap.lt_size e)) e
  have e0 : Evo σ1 s1.heap σ1 h' := .ext kk
  refine wpAny_mono (h1 { s1 with heap := h' } items.toList.reverse (S1.ext (t := s1.toks) kk) ((F.evo e1).evo e0) (hr.reverse.mono e0.tup)) ?_ fun _ _ z => z
  rintro _ s2 ⟨ρ2, σ2, q2, S2, F2, e2⟩
  exact ⟨_, _, _, q2, .next, S2, F2, ((e1.trans e0).evoF F.own).trans e2⟩
theorem Ex.assignSw3 {sc : Scope} {L : Addr} {cells : List (Str × Addr)} {q : Str} {fn : Option Addr} {cd : Value} {fr : Option Addr} {x y z : Str} {p1 p2 p3 : Pos} {k : Nat} {tpos : Pos} {v1 v2 v3 : Expr} {k2 : Nat} {vpos : Pos} {pos : Pos} {Q : FV → Rho → Store → Prop} (hh : A.handled = none)
    (hx : sc.names.lookup x = some .local) (hy : sc.names.lookup y = some .local) (hz : sc.names.lookup z = some .local)
    (h : Ev C A (mkE sc L cells q fn cd fr) (.Tuple [v1, v2, v3] k2 vpos) ρ σ (fun v σ1 => ∃ a b c, v = .tup [a, b, c] ∧ Q .next (((ρ.put z c).put y b).put x a) σ1) X)
    (hs : swapsWithSole [.Tuple [.Name x p1, .Name y p2, .Name z p3] k tpos] (.Tuple [v1, v2, v3] k2 vpos) pos.line (mkE sc L cells q fn cd fr) = pure false) (hw : swappedStores [.Tuple [.Name x p1, .Name y p2, .Name z p3] k tpos] (.Tuple [v1, v2, v3] k2 vpos) (mkE sc L cells q fn cd fr) = pure (some [x, y, z]))
    (c1 : cells.lookup x = none) (c2 : cells.lookup y = none) (c3 : cells.lookup z = none) : Ex C A (mkE sc L cells q fn cd fr) (.Assign [.Tuple [.Name x p1, .Name y p2, .Name z p3] k tpos] (.Tuple [v1, v2, v3] k2 vpos) pos) ρ σ Q X :=
  Ex.assignSw (names := [x, y, z]) hh (h.mono' fun v σ1 ⟨a, b, c, e, qq⟩ => ⟨[a, b, c], e, rfl, show AsgN C A (mkE sc L cells q fn cd fr) [z, y, x] [c, b, a] ρ σ1 _ X from
    AsgN.cons (env := mkE sc L cells q fn cd fr) hz c3 (AsgN.cons (env := mkE sc L cells q fn cd fr) hy c2 (AsgN.cons (env := mkE sc L cells q fn cd fr) hx c1 (AsgN.nil qq)))⟩) hs hw
theorem Ex.assignSw2 {sc : Scope} {L : Addr} {cells : List (Str × Addr)} {q : Str} {fn : Option Addr} {cd : Value} {fr : Option Addr} {x y : Str} {p1 p2 : Pos} {k : Nat} {tpos : Pos} {v1 v2 : Expr} {k2 : Nat} {vpos : Pos} {pos : Pos} {Q : FV → Rho → Store → Prop} (hh : A.handled = none)
    (hx : sc.names.lookup x = some .local) (hy : sc.names.lookup y = some .local)
    (h : Ev C A (mkE sc L cells q fn cd fr) (.Tuple [v1, v2] k2 vpos) ρ σ (fun v σ1 => ∃ a b, v = .tup [a, b] ∧ Q .next ((ρ.put y b).put x a) σ1) X)
    (hs : swapsWithSole [.Tuple [.Name x p1, .Name y p2] k tpos] (.Tuple [v1, v2] k2 vpos) pos.line (mkE sc L cells q fn cd fr) = pure false) (hw : swappedStores [.Tuple [.Name x p1, .Name y p2] k tpos] (.Tuple [v1, v2] k2 vpos) (mkE sc L cells q fn cd fr) = pure (some [x, y]))
    (c1 : cells.lookup x = none) (c2 : cells.lookup y = none) : Ex C A (mkE sc L cells q fn cd fr) (.Assign [.Tuple [.Name x p1, .Name y p2] k tpos] (.Tuple [v1, v2] k2 vpos) pos) ρ σ Q X :=
  Ex.assignSw (names := [x, y]) hh (h.mono' fun v σ1 ⟨a, b, e, qq⟩ => ⟨[a, b], e, rfl, show AsgN C A (mkE sc L cells q fn cd fr) [y, x] [b, a] ρ σ1 _ X from
    AsgN.cons (env := mkE sc L cells q fn cd fr) hy c2 (AsgN.cons (env := mkE sc L cells q fn cd fr) hx c1 (AsgN.nil qq))⟩) hs hw
theorem Store.none_ne {σ : Store} {a b : Addr} {o : O} (h : (σ.upd b o) a = none) : a ≠ b ∧ σ a = none := by
  by_cases q : a = b
  · subst q; simp [Store.upd] at h
  · exact ⟨q, by simpa [Store.upd, q] using h⟩
end
end Mine

namespace Mine
open PySem PySem.W
section
variable {C : Cx} {A : Around} {env : Env} {ρ : Rho} {σ : Store} {X : XP}
theorem ForL.nil {target : Expr} {body : List Stmt} {ok : Store → Prop} {Q : FV → Rho → Store → Prop} (h : Q .next ρ σ) : ForL C A env target body ok Q [] ρ σ := h
theorem ForL.cons {target : Expr} {body : List Stmt} {ok : Store → Prop} {Q : FV → Rho → Store → Prop} {x : V} {xs : List V}
    (h : Asg C A env target x ρ σ (fun ρ1 σ1 => Exs C A env body ρ1 σ1 (LpQ ok (fun ρ2 σ2 => ForL C A env target body ok Q xs ρ2 σ2) Q) (fun _ _ => False)) (fun _ _ => False)) : ForL C A env target body ok Q (x :: xs) ρ σ := by
  refine h.mono fun ρ1 σ1 h1 => h1.mono fun g ρ2 σ2 h2 => ?_
  cases g <;> exact h2
end
end Mine

set_option autoImplicit false
set_option linter.unusedVariables false
namespace Mine
open PySem PySem.W
/- which kind of goal stands: one quick look each -/
section
variable {C : Cx} {A : Around} {env : Env} {ρ : Rho} {σ : Store} {X : XP}
theorem is.ev {e : Expr} {Q : V → Store → Prop} (h : Ev C A env e ρ σ Q X) : Ev C A env e ρ σ Q X := h
theorem is.tst {e : Expr} {Q : Bool → Store → Prop} (h : Tst C A env e ρ σ Q X) : Tst C A env e ρ σ Q X := h
theorem is.ex {e : Stmt} {Q : FV → Rho → Store → Prop} (h : Ex C A env e ρ σ Q X) : Ex C A env e ρ σ Q X := h
theorem is.exs {e : List Stmt} {Q : FV → Rho → Store → Prop} (h : Exs C A env e ρ σ Q X) : Exs C A env e ρ σ Q X := h
theorem is.thn {e : List Stmt} {Q : FV → Rho → Store → Prop} {g : FV} (h : Then C A env e Q X g ρ σ) : Then C A env e Q X g ρ σ := h
theorem is.asg {e : Expr} {x : V} {Q : Rho → Store → Prop} (h : Asg C A env e x ρ σ Q X) : Asg C A env e x ρ σ Q X := h
theorem is.cmp {o : CmpOp} {x y : V} {Q : V → Store → Prop} (h : CmpWP C A o x y σ Q X) : CmpWP C A o x y σ Q X := h
theorem is.bin {o : Operator} {x y : V} {Q : V → Store → Prop} (h : BinWP C A o x y σ Q X) : BinWP C A o x y σ Q X := h
theorem is.call {f : Value} {xs : List V} {Q : V → Store → Prop} (h : CallWP C A f xs σ Q X) : CallWP C A f xs σ Q X := h
theorem is.item {x y : V} {Q : V → Store → Prop} (h : ItemWP C A x y σ Q X) : ItemWP C A x y σ Q X := h
theorem is.lp {ok : Store → Prop} {J : Rho → Store → Prop} {Q : FV → Rho → Store → Prop} {g : FV} (h : LpQ ok J Q g ρ σ) : LpQ ok J Q g ρ σ := h
theorem is.tru {x : V} {Q : Bool → Store → Prop} (h : TruWP C A x σ Q X) : TruWP C A x σ Q X := h
theorem is.ags {pos : Pos} {es : List Expr} {Q : List V → Store → Prop} (h : Ags C A env pos es ρ σ Q X) : Ags C A env pos es ρ σ Q X := h
end
end Mine

open PySem PySem.W PySem.SeqAt PyProof.Rows
set_option Elab.async false
set_option maxRecDepth 100000
set_option maxHeartbeats 8000000
set_option linter.unusedVariables false
set_option linter.unusedSimpArgs false
open_top hd for PySem.Challenge.rw_uf030038_13
namespace Mine
variable {C : Cx} {A : Around} {σ : Store} {X : XP}
local macro_rules | `(tactic| walk_at "mK") => do let h := Lean.mkIdent `hK; `(tactic| (rw [$h:ident]; k_is))
local macro_rules | `(tactic| walk_at "mne") => `(tactic| exact ofS_ne (by decide))
local macro_rules | `(tactic| walk_at "mget") => `(tactic| first
  | with_reducible exact Rho.get_hit
  | with_reducible exact Rho.gp_hit
  | with_reducible assumption
  | ((with_reducible refine' Rho.get_miss ?k0 ?k1); (case k0 => walk_at "mne"); (case k1 => walk_at "mget"))
  | ((with_reducible refine' Rho.gp_miss ?k0 ?k1); (case k0 => walk_at "mne"); (case k1 => walk_at "mget")))
local macro_rules | `(tactic| walk_at "mput") => `(tactic| first
  | with_reducible exact Rho.put_hit
  | with_reducible exact Rho.put_nil
  | ((with_reducible refine' Rho.put_miss ?k0 ?k1); (case k0 => walk_at "mne"); (case k1 => walk_at "mput"))
  | with_reducible exact rfl)
local macro_rules | `(tactic| walk_at "mcapt") => `(tactic| first
  | exact Capt.nil
  | ((with_reducible refine' Capt.take ?k0 ?k1); (case k0 => walk_at "mget"); (case k1 => walk_at "mcapt"))
  | ((with_reducible refine' Capt.skip ?k0 ?k1); (case k0 => decide); (case k1 => walk_at "mcapt")))
local macro_rules | `(tactic| walk_at "mvr") => `(tactic| first | exact VR.ref _ | exact VR.int _ _ | exact VR.str _ _ | exact VR.typ _ | exact VR.blt _ | exact VR.bool _ | exact VR.none)
local macro_rules | `(tactic| walk_at "mname") => `(tactic| first
  | ((with_reducible refine' Ev.nloc ?k0 ?k1 ?_ ?k3); (case k0 => decide +kernel); (case k1 => walk_at "mget"); (case k3 => kernel_rfl))
  | ((with_reducible refine' Ev.ncel ?k0 ?k1 ?_ ?k3 ?k4); (case k0 => decide +kernel); (case k1 => walk_at "mget"); (case k3 => kernel_rfl); (case k4 => kernel_rfl))
  | ((with_reducible refine' Ev.nglob ?k0 ?k1 ?k2 ?_ ?k4); (case k0 => decide +kernel); (case k1 => walk_at "mK"); (case k2 => walk_at "mvr"); (case k4 => kernel_rfl))
  | ((with_reducible refine' Ev.nblt ?k0 ?k1 ?k2 ?k3 ?_ ?k5 ?k6); (case k0 => decide +kernel); (case k1 => walk_at "mK"); (case k2 => boot_by_name); (case k3 => walk_at "mvr"); (case k5 => decide); (case k6 => kernel_rfl)))
local macro_rules | `(tactic| walk_at "mcomp") => `(tactic| ((with_reducible refine' Ev.lcomp ?k0 ?k1 ?k2 ?k3 ?_ ?k5 ?k6); (case k0 => walk_at "mcapt"); (case k1 => decide +kernel); (case k2 => decide +kernel); (case k3 => rfl); (case k5 => kernel_rfl); (case k6 => intro _; kernel_rfl)))
local macro_rules | `(tactic| walk_at "mcompA") => `(tactic| ((with_reducible refine' Ex.lassign ?k0 ?k1 ?k2 ?k3 ?k4 ?_ ?k6 ?k7 ?k8 ?k9); (case k0 => walk_at "mcapt"); (case k1 => decide +kernel); (case k2 => decide +kernel); (case k3 => rfl); (case k4 => decide +kernel); (case k6 => kernel_rfl); (case k7 => kernel_rfl); (case k8 => kernel_rfl); (case k9 => intro _; kernel_rfl)))
local macro_rules | `(tactic| walk_at "msz") => `(tactic| exact small_le (by kernel_rfl))
local macro_rules | `(tactic| walk_at "mnea") => `(tactic| first | with_reducible assumption | exact Ne.symm (by with_reducible assumption))
local macro_rules | `(tactic| walk_at "mst") => `(tactic| first
  | with_reducible exact Store.hit
  | with_reducible assumption
  | ((with_reducible refine' Store.miss ?k0 ?k1); (case k0 => walk_at "mnea"); (case k1 => walk_at "mst"))
  | ((with_reducible refine' Store.at_fresh ?k0 ?k1); (case k0 => walk_at "mst"); (case k1 => walk_at "mst")))
local macro_rules | `(tactic| walk_at "mty") => `(tactic| ((with_reducible refine' TyGo.mk ?k0 ?_); (case k0 => first | exact TyV.str | ((with_reducible refine' TyV.list ?h); (case h => walk_at "mst")) | ((with_reducible refine' TyV.sd ?h); (case h => walk_at "mst")) | ((with_reducible refine' TyV.id ?h); (case h => walk_at "mst")))))
local macro_rules | `(tactic| walk_at "mom") => `(tactic| first | omega | (simp only [List.length_map, List.length_append, List.length_reverse, List.length_cons, List.length_nil, sizeLine_eq] at *; omega) | (simp [sizeLine_eq] at *; omega))
local macro_rules | `(tactic| walk_at "msget") => `(tactic| first
  | with_reducible exact sget_hit
  | with_reducible assumption
  | ((with_reducible refine' sget_miss ?k0 ?k1); (case k0 => walk_at "mne"); (case k1 => walk_at "msget")))
local macro_rules | `(tactic| walk_at "mlst") => `(tactic| first | ((with_reducible refine' LstAt.st ?h); (case h => walk_at "mst")) | with_reducible assumption)
local macro_rules | `(tactic| walk_at "mhasty") => `(tactic| first
  | exact HasTy.none
  | exact HasTy.bool _
  | exact HasTy.int _
  | exact HasTy.str _
  | exact HasTy.tup _
  | ((with_reducible refine' HasTy.list ?k0); (case k0 => walk_at "mlst"))
  | ((with_reducible refine' HasTy.sd ?k0); (case k0 => walk_at "mst"))
  | ((with_reducible refine' HasTy.id ?k0); (case k0 => walk_at "mst")))
local macro_rules | `(tactic| walk_at "mhasty") => `(tactic| first
  | exact HasTy.none
  | exact HasTy.bool _
  | exact HasTy.int _
  | exact HasTy.str _
  | exact HasTy.tup _
  | ((with_reducible refine' HasTy.list ?k0); (case k0 => walk_at "mlst"))
  | ((with_reducible refine' HasTy.sd ?k0); (case k0 => walk_at "mst"))
  | ((with_reducible refine' HasTy.id ?k0); (case k0 => walk_at "mst")))
local macro_rules | `(tactic| walk_at "masg") => `(tactic| first
  | ((with_reducible refine' Asg.nloc ?k0 ?k1 ?_ ?k3); (case k0 => decide +kernel); (case k1 => walk_at "mput"); (case k3 => kernel_rfl))
  | ((with_reducible refine' Asg.ncel ?k0 ?k1 ?_ ?k3); (case k0 => decide +kernel); (case k1 => walk_at "mput"); (case k3 => kernel_rfl))
  | ((with_reducible refine' Asg.tup ?k0 ?k1 ?_ ?k3 ?k4); (case k0 => first | assumption); (case k1 => rfl); (case k3 => kernel_rfl); (case k4 => kernel_rfl))
  | ((with_reducible refine' Asg.sub ?_))
  | ((with_reducible refine' Asg.attr ?_)))
local macro_rules | `(tactic| walk_at "mmeth") => `(tactic| first
  | ((with_reducible refine' Ev.bmeth F.plainAttrs_list F.slot_list_append F.type_list_append ?_ ?k1 ?k2 ?k3 ?k4); (case k1 => kernel_rfl); (case k2 => kernel_rfl); (case k3 => kernel_rfl); (case k4 => kernel_rfl))
  | ((with_reducible refine' Ev.bmeth F.plainAttrs_list F.slot_list_pop F.type_list_pop ?_ ?k1 ?k2 ?k3 ?k4); (case k1 => kernel_rfl); (case k2 => kernel_rfl); (case k3 => kernel_rfl); (case k4 => kernel_rfl))
  | ((with_reducible refine' Ev.bmeth F.plainAttrs_list F.slot_list_remove F.type_list_remove ?_ ?k1 ?k2 ?k3 ?k4); (case k1 => kernel_rfl); (case k2 => kernel_rfl); (case k3 => kernel_rfl); (case k4 => kernel_rfl))
  | ((with_reducible refine' Ev.bmeth F.plainAttrs_list F.slot_list_clear F.type_list_clear ?_ ?k1 ?k2 ?k3 ?k4); (case k1 => kernel_rfl); (case k2 => kernel_rfl); (case k3 => kernel_rfl); (case k4 => kernel_rfl))
  | ((with_reducible refine' Ev.bmeth F.plainAttrs_list F.slot_list_reverse F.type_list_reverse ?_ ?k1 ?k2 ?k3 ?k4); (case k1 => kernel_rfl); (case k2 => kernel_rfl); (case k3 => kernel_rfl); (case k4 => kernel_rfl))
  | ((with_reducible refine' Ev.bmeth F.plainAttrs_str F.slot_str_join F.type_str_join ?_ ?k1 ?k2 ?k3 ?k4); (case k1 => kernel_rfl); (case k2 => kernel_rfl); (case k3 => kernel_rfl); (case k4 => kernel_rfl))
  | ((with_reducible refine' Ev.bmeth F.plainAttrs_list F.slot_list_insert F.type_list_insert ?_ ?k1 ?k2 ?k3 ?k4); (case k1 => kernel_rfl); (case k2 => kernel_rfl); (case k3 => kernel_rfl); (case k4 => kernel_rfl))
  | ((with_reducible refine' Ev.bmeth F.plainAttrs_list F.slot_list_index F.type_list_index ?_ ?k1 ?k2 ?k3 ?k4); (case k1 => kernel_rfl); (case k2 => kernel_rfl); (case k3 => kernel_rfl); (case k4 => kernel_rfl))
  | ((with_reducible refine' Ev.bmeth F.plainAttrs_list F.slot_list_count F.type_list_count ?_ ?k1 ?k2 ?k3 ?k4); (case k1 => kernel_rfl); (case k2 => kernel_rfl); (case k3 => kernel_rfl); (case k4 => kernel_rfl))
  | ((with_reducible refine' Ev.bmeth F.plainAttrs_str F.slot_str_upper F.type_str_upper ?_ ?k1 ?k2 ?k3 ?k4); (case k1 => kernel_rfl); (case k2 => kernel_rfl); (case k3 => kernel_rfl); (case k4 => kernel_rfl))
  | ((with_reducible refine' Ev.bmeth F.plainAttrs_dict F.slot_dict_pop F.type_dict_pop ?_ ?k1 ?k2 ?k3 ?k4); (case k1 => kernel_rfl); (case k2 => kernel_rfl); (case k3 => kernel_rfl); (case k4 => kernel_rfl)))
local macro_rules | `(tactic| walk_at "mcall") => `(tactic| first
  | ((with_reducible refine' Ev.callR ?_ ?k1 ?k2); (case k1 => kernel_rfl); (case k2 => kernel_rfl); walk_at "mname"; refine' ⟨_, rfl, ?k3, ?_⟩; (case k3 => walk_at "mK"))
  | ((with_reducible refine' Ev.callB ?_ ?k1 ?k2); (case k1 => kernel_rfl); (case k2 => kernel_rfl); walk_at "mname"; first | refine' ⟨_, .inl ⟨rfl, ?_⟩⟩ | refine' ⟨_, .inr ⟨rfl, ?_⟩⟩))
local macro_rules | `(tactic| walk_at "mdict") => `(tactic| ((with_reducible refine' Ev.dictS ?k0 ?k1 ?k2 ?k3 ?_); (case k0 => rfl); (case k1 => rfl); (case k2 => exact List.cons_ne_nil _ _); (case k3 => decide)))
local macro_rules | `(tactic| walk_at "mev") => `(tactic| first
  | walk_at "mname"
  | ((with_reducible refine' Ev.cint ?_))
  | ((with_reducible refine' Ev.cstr ?_))
  | ((with_reducible refine' Ev.cbool ?_))
  | ((with_reducible refine' Ev.cnone ?_))
  | ((with_reducible refine' Ev.bin ?_))
  | ((with_reducible refine' Ev.cmp ?_ ?k1); (case k1 => kernel_rfl))
  | ((with_reducible refine' Ev.sliceL ?_))
  | ((with_reducible refine' Ev.sub ?_))
  | ((with_reducible refine' Ev.attr ?_ ?k1); (case k1 => kernel_rfl))
  | ((with_reducible refine' Ev.tuple ?_))
  | walk_at "mmeth"
  | walk_at "mcall"
  | ((with_reducible refine' Ev.un ?_))
  | ((with_reducible refine' Ev.chain ?_ ?k1); (case k1 => kernel_rfl))
  | ((with_reducible refine' Ev.boolop ?_))
  | ((with_reducible refine' Ev.list ?_))
  | walk_at "mcomp"
  | walk_at "mdict")
local macro_rules | `(tactic| walk_at "mex") => `(tactic| first
  | ((with_reducible refine' Ex.ret ?_))
  | ((with_reducible refine' Ex.ite ?_))
  | ((with_reducible refine' Ex.expr ?_ ?k1 ?k2); (case k1 => kernel_rfl); (case k2 => kernel_rfl))
  | walk_at "mcompA"
  | ((with_reducible refine' Ex.assignSw3 ?k0 ?k1 ?k2 ?k3 ?_ ?k5 ?k6 ?k7 ?k8 ?k9); (case k0 => assumption); (case k1 => decide +kernel); (case k2 => decide +kernel); (case k3 => decide +kernel); (case k5 => kernel_rfl); (case k6 => kernel_rfl); (case k7 => kernel_rfl); (case k8 => kernel_rfl); (case k9 => kernel_rfl))
  | ((with_reducible refine' Ex.assignSw2 ?k0 ?k1 ?k2 ?_ ?k4 ?k5 ?k6 ?k7); (case k0 => assumption); (case k1 => decide +kernel); (case k2 => decide +kernel); (case k4 => kernel_rfl); (case k5 => kernel_rfl); (case k6 => kernel_rfl); (case k7 => kernel_rfl))
  | ((with_reducible refine' Ex.assign ?_ ?k1 ?k2 ?k3); (case k1 => kernel_rfl); (case k2 => kernel_rfl); (case k3 => kernel_rfl))
  | ((with_reducible refine' Ex.for ?_ ?k1); (case k1 => intro _; kernel_rfl))
  | ((with_reducible refine' Ex.cont ?_))
  | ((with_reducible refine' Ex.pass ?_))
  | ((with_reducible refine' Ex.ret0 ?_)))
local macro_rules | `(tactic| walk_at "m") => `(tactic| first
  | ((with_reducible refine' is.ev ?_); first | walk_at "mev")
  | ((with_reducible refine' is.exs ?_); first | ((with_reducible refine' Exs.cons ?_)) | ((with_reducible refine' Exs.nil ?_)))
  | ((with_reducible refine' is.thn ?_); first | ((with_reducible refine' Then.next ?_)) | ((with_reducible refine' Then.ret ?_)) | ((with_reducible refine' Then.cont ?_)) | ((with_reducible refine' Then.brk ?_)))
  | ((with_reducible refine' is.ags ?_); first | ((with_reducible refine' Ags.cons ?_ ?k1); (case k1 => kernel_rfl)) | ((with_reducible refine' Ags.nil ?_)))
  | ((with_reducible refine' is.cmp ?_); first | ((with_reducible refine' CmpWP.eq_int ?_)) | ((with_reducible refine' CmpWP.ne_int ?_)) | ((with_reducible refine' CmpWP.lt_int ?_)) | ((with_reducible refine' CmpWP.le_int ?_)) | ((with_reducible refine' CmpWP.gt_int ?_)) | ((with_reducible refine' CmpWP.ge_int ?_)) | ((with_reducible refine' CmpWP.eq_str ?_)) | ((with_reducible refine' CmpWP.ne_str ?_)) | ((with_reducible refine' CmpWP.isNone ?_)) | ((with_reducible refine' CmpWP.isNotNone ?_)))
  | ((with_reducible refine' is.tst ?_); first | ((with_reducible refine' Tst.cmp ?_ ?k1); (case k1 => kernel_rfl)) | ((with_reducible refine' Tst.not ?_)) | ((with_reducible refine' Tst.boolop ?_)) | ((with_reducible refine' Tst.chain ?_ ?k1); (case k1 => kernel_rfl)) | ((with_reducible refine' Tst.val ?_ ?k1); (case k1 => kernel_rfl)))
  | ((with_reducible refine' is.ex ?_); first | walk_at "mex")
  | ((with_reducible refine' is.asg ?_); first | walk_at "masg")
  | ((with_reducible refine' is.bin ?_); first | ((with_reducible refine' BinWP.add_int ?_)) | ((with_reducible refine' BinWP.sub_int ?_)) | ((with_reducible refine' BinWP.mul_int ?_ ?k1); (case k1 => first | exact intMul_l (by decide) (by decide) | exact intMul_r (by decide) (by decide) | exact intMul_l (by omega) (by omega) | exact intMul_r (by omega) (by omega))) | ((with_reducible refine' BinWP.fmod_int ?k0 ?_); (case k0 => decide)) | ((with_reducible refine' BinWP.fdiv_int ?k0 ?k1 ?_); (case k0 => decide); (case k1 => decide)))
  | ((with_reducible refine' is.tru ?_); first | ((with_reducible refine' TruWP.bool ?_)) | ((with_reducible refine' TruWP.list ?k0 ?k1 ?_); (case k0 => walk_at "mlst"); (case k1 => walk_at "mom")))
  | ((with_reducible refine' is.item ?_); first | ((with_reducible refine' ItemWP.tup0 ?_)) | ((with_reducible refine' ItemWP.tup1 ?_)) | ((with_reducible refine' ItemWP.tup2 ?_)) | ((with_reducible refine' ItemWP.tup3 ?_)) | ((with_reducible refine' ItemWP.tup4 ?_)) | ((with_reducible refine' ItemWP.last ?k0 ?_); (case k0 => walk_at "mlst")) | ((with_reducible refine' ItemWP.sd ?k0 ?k1 ?_); (case k0 => walk_at "mst"); (case k1 => walk_at "msget")))
  | ((with_reducible refine' is.call ?_); first | ((with_reducible refine' isi_t ?k0 ?k1 ?k2 ?_); (case k0 => walk_at "mhasty"); (case k1 => decide); (case k2 => rfl)) | ((with_reducible refine' CallWP.append ?k0 ?k1 ?_); (case k0 => walk_at "mst"); (case k1 => walk_at "mom")) | ((with_reducible refine' BltWP.len_list ?k0 ?k1 ?_); (case k0 => walk_at "mlst"); (case k1 => walk_at "mom")) | ((with_reducible refine' CallWP.pop ?k0 ?k1 ?_); (case k0 => walk_at "mst"); (case k1 => walk_at "mom")) | ((with_reducible refine' CallWP.listOf ?k0 ?k1 ?_); (case k0 => walk_at "mlst"); (case k1 => walk_at "mom")) | ((with_reducible refine' CallWP.range1 ?_)) | ((with_reducible refine' CallWP.range2 ?_)))
  | ((with_reducible refine' is.lp ?_); first | ((with_reducible refine' LpQ.n ?_)) | ((with_reducible refine' LpQ.c ?_)) | ((with_reducible refine' LpQ.b ?_)) | ((with_reducible refine' LpQ.r ?_)))
  | ((with_reducible refine' Br.t ?k0 ?_); (case k0 => rfl))
  | ((with_reducible refine' Br.f ?k0 ?_); (case k0 => rfl))
  | ((with_reducible refine' Br.t ?k0 ?_); (case k0 => decide +kernel))
  | ((with_reducible refine' Br.f ?k0 ?_); (case k0 => decide +kernel))
  | walk_at "mty"
  | ((with_reducible refine' Szs.mk ?k0 ?_); (case k0 => walk_at "msz"))
  | ((with_reducible refine' AllT.and_cons ?_))
  | ((with_reducible refine' AllT.or_cons ?_))
  | ((with_reducible refine' AllT.and_nil ?_))
  | ((with_reducible refine' AllT.or_nil ?_))
  | ((with_reducible refine' BoolE.one ?_))
  | ((with_reducible refine' BoolE.and ?_))
  | ((with_reducible refine' BoolE.or ?_))
  | ((with_reducible refine' Ifs.nil ?_))
  | ((with_reducible refine' Ifs.one ?_))
  | ((with_reducible refine' UnWP.neg_int ?_))
  | ((with_reducible refine' AsgO.cons ?_ ?k1); (case k1 => kernel_rfl))
  | ((with_reducible refine' AsgO.nil ?_))
  | ((with_reducible refine' Prt.none ?_))
  | ((with_reducible refine' Prt.some ?_))
  | ((with_reducible refine' Prs.str ?_))
  | ((with_reducible refine' Prs.nil ?_))
  | ((with_reducible refine' Src.of ?_))
  | ((with_reducible refine' ForL.nil ?_))
  | ((with_reducible refine' ForL.cons ?_))
  | ((with_reducible refine' Eqs.mk ?k0 ?_); (case k0 => rfl)))
local macro_rules | `(tactic| walk_at "mdef0") => `(tactic| (refine' CallWP.def0  ?k1 ?k2 ?k3 ?k4 ?k5 ?k6 ?k7 ?k8 ?k9 ?k10 ?_; (case k1 => walk_at "mK"); (case k2 => walk_at "mK"); (case k3 => assumption); (case k4 => with_unfolding_all rfl); (case k5 => decide +kernel); (case k6 => decide +kernel); (case k7 => decide +kernel); (case k8 => rfl); (case k9 => rfl); (case k10 => rfl)))
local macro_rules | `(tactic| walk_at "mdef1") => `(tactic| (refine' CallWP.def1 _ ?k1 ?k2 ?k3 ?k4 ?k5 ?k6 ?k7 ?k8 ?k9 ?k10 ?_; (case k1 => walk_at "mK"); (case k2 => walk_at "mK"); (case k3 => assumption); (case k4 => intro _; with_unfolding_all rfl); (case k5 => decide +kernel); (case k6 => decide +kernel); (case k7 => decide +kernel); (case k8 => rfl); (case k9 => rfl); (case k10 => rfl)))
local macro_rules | `(tactic| walk_at "mdef2") => `(tactic| (refine' CallWP.def2 _ _ ?k1 ?k2 ?k3 ?k4 ?k5 ?k6 ?k7 ?k8 ?k9 ?k10 ?_; (case k1 => walk_at "mK"); (case k2 => walk_at "mK"); (case k3 => assumption); (case k4 => intro _ _; with_unfolding_all rfl); (case k5 => decide +kernel); (case k6 => decide +kernel); (case k7 => decide +kernel); (case k8 => rfl); (case k9 => rfl); (case k10 => rfl)))
local macro_rules | `(tactic| walk_at "mdef3") => `(tactic| (refine' CallWP.def3 _ _ _ ?k1 ?k2 ?k3 ?k4 ?k5 ?k6 ?k7 ?k8 ?k9 ?k10 ?_; (case k1 => walk_at "mK"); (case k2 => walk_at "mK"); (case k3 => assumption); (case k4 => intro _ _ _; with_unfolding_all rfl); (case k5 => decide +kernel); (case k6 => decide +kernel); (case k7 => decide +kernel); (case k8 => rfl); (case k9 => rfl); (case k10 => rfl)))
local macro_rules | `(tactic| walk_at "mdef4") => `(tactic| (refine' CallWP.def4 _ _ _ _ ?k1 ?k2 ?k3 ?k4 ?k5 ?k6 ?k7 ?k8 ?k9 ?k10 ?_; (case k1 => walk_at "mK"); (case k2 => walk_at "mK"); (case k3 => assumption); (case k4 => intro _ _ _ _; with_unfolding_all rfl); (case k5 => decide +kernel); (case k6 => decide +kernel); (case k7 => decide +kernel); (case k8 => rfl); (case k9 => rfl); (case k10 => rfl)))
local macro_rules | `(tactic| walk_at "mdef5") => `(tactic| (refine' CallWP.def5 _ _ _ _ _ ?k1 ?k2 ?k3 ?k4 ?k5 ?k6 ?k7 ?k8 ?k9 ?k10 ?_; (case k1 => walk_at "mK"); (case k2 => walk_at "mK"); (case k3 => assumption); (case k4 => intro _ _ _ _ _; with_unfolding_all rfl); (case k5 => decide +kernel); (case k6 => decide +kernel); (case k7 => decide +kernel); (case k8 => rfl); (case k9 => rfl); (case k10 => rfl)))
local macro_rules | `(tactic| walk_at "mdef6") => `(tactic| (refine' CallWP.def6 _ _ _ _ _ _ ?k1 ?k2 ?k3 ?k4 ?k5 ?k6 ?k7 ?k8 ?k9 ?k10 ?_; (case k1 => walk_at "mK"); (case k2 => walk_at "mK"); (case k3 => assumption); (case k4 => intro _ _ _ _ _ _; with_unfolding_all rfl); (case k5 => decide +kernel); (case k6 => decide +kernel); (case k7 => decide +kernel); (case k8 => rfl); (case k9 => rfl); (case k10 => rfl)))
local macro_rules | `(tactic| walk_at "mdef7") => `(tactic| (refine' CallWP.def7 _ _ _ _ _ _ _ ?k1 ?k2 ?k3 ?k4 ?k5 ?k6 ?k7 ?k8 ?k9 ?k10 ?_; (case k1 => walk_at "mK"); (case k2 => walk_at "mK"); (case k3 => assumption); (case k4 => intro _ _ _ _ _ _ _; with_unfolding_all rfl); (case k5 => decide +kernel); (case k6 => decide +kernel); (case k7 => decide +kernel); (case k8 => rfl); (case k9 => rfl); (case k10 => rfl)))
inductive Ext where
  | none | int (i : Int) | pair | str (s : String)
def Ext.vs : Ext → List V
  | .none => []
  | .int i => [.int i]
  | .pair => [.tup [.int 0, .int 3]]
  | .str s => [.str (Str.ofString s)]
inductive Row where
  | begin (n : Nat) (t : Int) (w : Str) | fin (n : Nat) | call (n : Nat) (name : Str) | other (kind : String) (n : Int) (e : Ext)
def Row.v : Row → V
  | .begin n t _ => .tup [.str "begin", .int n, .int t]
  | .fin n => .tup [.str "end", .int n]
  | .call n x => .tup [.str "call", .int n, .str x]
  | .other k n r => .tup (.str (Str.ofString k) :: .int n :: r.vs)
def Row.ok : Row → Prop
  | .other k _ _ => (Str.ofString k == "begin") = false ∧ (Str.ofString k == "end") = false ∧ (Str.ofString k == "call") = false
  | .call _ x => x.length ≤ 12 ∧ PyData.strOk x = true
  | .begin n _ x => n < 64 ∧ x.length ≤ 12 ∧ PyData.strOk x = true
  | _ => True
def begunF : List Row → List Nat
  | [] => []
  | .begin n _ _ :: r => n :: begunF r
  | .fin _ :: r => begunF r
  | .call _ _ :: r => begunF r
  | .other _ _ _ :: r => begunF r
def insideF : List Row → List Nat → List (Nat × Option Nat)
  | [], _ => []
  | .begin n _ _ :: r, st => (n, st.head?) :: insideF r (n :: st)
  | .fin _ :: r, st => insideF r st.tail
  | .call _ _ :: r, st => insideF r st
  | .other _ _ _ :: r, st => insideF r st
def wf : List Row → Nat → Prop
  | [], _ => True
  | .begin _ _ _ :: r, k => wf r (k + 1)
  | .fin _ :: r, k => 0 < k ∧ wf r (k - 1)
  | .call _ _ :: r, k => wf r k
  | .other _ _ _ :: r, k => wf r k
def line1 (k n : Nat) (w : Str) : Str := Txt.mul "  " k ++ Str.ofString (toString (n : Int)) ++ " " ++ w
def line2 (k : Nat) (w : Str) : Str := Txt.mul "  " k ++ "- " ++ w
def drawnF : List Row → Nat → List Str
  | [], _ => []
  | .begin n _ w :: r, k => line1 k n w :: drawnF r (k + 1)
  | .fin _ :: r, k => drawnF r (k - 1)
  | .call _ x :: r, k => line2 k x :: drawnF r k
  | .other _ _ _ :: r, k => drawnF r k
def outV : Option Nat → V
  | none => .none
  | some n => .int n
def pairV (p : Nat × Option Nat) : V := .tup [.int p.1, outV p.2]
def intV (n : Nat) : V := .int n
def tStep (acc : List (List Nat)) (p : Nat × Option Nat) : List (List Nat) :=
  match p.2 with
  | none => acc ++ [[p.1]]
  | some _ => acc.dropLast ++ [acc.getLastD [] ++ [p.1]]

theorem c_begun (hK : C.K = hd.heap_39 C.w.params) {l : Addr} {rows : List Row} {Q : V → Store → Prop} (hr : A.depth < recursionLimit) (hh : A.handled = none) (hl : σ l = some (.list (rows.map Row.v))) (hz : rows.length ≤ 1000) (hok : ∀ r ∈ rows, r.ok)
    (h : ∀ a, σ a = none → Q (.ref a) (σ.upd a (.list ((begunF rows).map intV)))) : CallWP C A (.ref 19) [.ref l] σ Q X := by
  walk_at "mdef1"
  intro L A' a1 a2 a3
  have hh' : A'.handled = none := a1.trans hh
  repeat walk_at "m"
  refine ⟨_, _, ItV.list hh' (.inl hl), fun L' => ?_⟩
  refine CmpL.pure (fun y => match y with | .tup (.str k :: _) => k == "begin" | _ => false) (fun y => match y with | .tup (_ :: n :: _) => n | _ => .none) (.inl hl) _ _ ?_ ?_ (by simp [sizeLine_eq]; omega) ?_
  · intro y hy Q hQ
    obtain ⟨r, hr, rfl⟩ := List.mem_map.mp hy
    cases r <;> simp only [Row.v] <;> (repeat walk_at "m") <;> exact hQ
  · intro y hy hp Q hQ
    obtain ⟨r, hr, rfl⟩ := List.mem_map.mp hy
    cases r <;> simp only [Row.v] <;> (repeat walk_at "m") <;> exact hQ
  · intro a ha
    have e : ∀ rows : List Row, (∀ r ∈ rows, r.ok) → (List.map (fun y => match y with | V.tup (_ :: n :: _) => n | _ => .none) (List.filter (fun y => match y with | V.tup (V.str k :: _) => k == "begin" | _ => false) (rows.map Row.v))) = (begunF rows).map intV := by
      intro rows hok
      induction rows with
      | nil => rfl
      | cons r rs ih =>
        have ih := ih fun r hr => hok r (.tail _ hr)
        have o := hok r (.head _)
        cases r with
        | begin n t w => simp only [List.map_cons, Row.v, begunF, List.filter_cons, beq_self_eq_true, if_true, ih, intV]
        | fin n => rw [begunF, ← ih, List.map_cons, List.filter_cons, if_neg (by simp only [Row.v]; decide +kernel)]
        | call n x => rw [begunF, ← ih, List.map_cons, List.filter_cons, if_neg (by simp only [Row.v]; decide +kernel)]
        | other k n x => rw [begunF, ← ih, List.map_cons, List.filter_cons, if_neg (by simp only [Row.v, o.1]; decide)]
    rw [List.nil_append, e rows hok]
    exact h a ha

theorem c_inside (hK : C.K = hd.heap_39 C.w.params) {l : Addr} {rows : List Row} {Q : V → Store → Prop} (hr : A.depth < recursionLimit) (hh : A.handled = none) (hl : σ l = some (.list (rows.map Row.v))) (hz : rows.length ≤ 1000) (hok : ∀ r ∈ rows, r.ok) (hw : wf rows 0)
    (h : ∀ a σ', Grow σ σ' → σ a = none → σ' a = some (.list ((insideF rows []).map pairV)) → Q (.ref a) σ') : CallWP C A (.ref 26) [.ref l] σ Q X := by
  walk_at "mdef1"
  intro L A' a1 a2 a3
  have hh' : A'.handled = none := a1.trans hh
  repeat walk_at "m"
  intro f hf
  repeat walk_at "m"
  intro a ha
  repeat walk_at "m"
  have hfa : f ≠ a := fun e => by subst e; simp [Store.upd] at ha
  have ha0 : σ a = none := by simpa [Store.upd, Ne.symm hfa] using ha
  have hl2 : ((σ.upd f (.list [])).upd a (.list [])) l = some (.list (rows.map Row.v)) := by walk_at "mst"
  refine ⟨_, _, ItV.list hh' (.inl hl2), ?_⟩
  refine ForL.inv Row.v (fun rs ρ σ1 => ∃ st found, (∀ r ∈ rs, r.ok) ∧ Grow σ σ1 ∧ σ1 f = some (.list (List.map pairV found)) ∧ σ1 a = some (.list (List.map intV (List.reverse st))) ∧ ρ.get "found" = some (.ref f) ∧ ρ.get "around" = some (.ref a) ∧ wf rs st.length ∧
    found ++ insideF rs st = insideF rows [] ∧ found.length + rs.length ≤ 1000 ∧ st.length + rs.length ≤ 1000) ?_ ?_ _ _ _ ⟨[], [], hok, ?_, ?_, ?_, ?_, ?_, hw, rfl, by simpa using hz, by simpa using hz⟩
  · rintro r rs ρ σ1 ⟨st, found, ko, g, gf, ga, rf, ra, w, e, z1, z2⟩
    simp only [List.length_cons] at z1 z2
    have hlr : ∀ σ' : Store, Grow σ σ' → LstAt C σ' l (rows.map Row.v) := fun σ' g' => .inl (g' _ _ hl)
    have ko' := fun r hr => ko r (.tail _ hr)
    cases r with
    | begin n t ww =>
      simp only [Row.v]
      cases st with
      | nil =>
        repeat walk_at "m"
        refine ⟨hlr _ ?_, [n], found ++ [(n, none)], ko', ?_, ?_, ?_, ?_, ?_, ?_, ?_, ?_, ?_⟩
        · exact (g.upd hf).upd ha0
        · exact (g.upd hf).upd ha0
        · rw [Store.miss hfa Store.hit]; simp [pairV, outV]
        · rw [Store.hit]; simp [intV]
        · walk_at "mget"
        · walk_at "mget"
        · exact w
        · rw [← e]; simp [insideF]
        · simp; omega
        · simp; omega
      | cons m st =>
        simp only [List.length_cons] at z1 z2
        rw [show (m :: st).reverse.map intV = st.reverse.map intV ++ [V.int m] by simp [intV]] at ga
        repeat walk_at "m"
        refine Br.t (by simp) ?_
        repeat walk_at "m"
        refine ⟨hlr _ ?_, n :: m :: st, found ++ [(n, some m)], ko', ?_, ?_, ?_, ?_, ?_, ?_, ?_, ?_, ?_⟩
        · exact (g.upd hf).upd ha0
        · exact (g.upd hf).upd ha0
        · rw [Store.miss hfa Store.hit]; simp [pairV, outV]
        · rw [Store.hit]; simp [intV]
        · walk_at "mget"
        · walk_at "mget"
        · exact w
        · rw [← e]; simp [insideF]
        · simp; omega
        · simp; omega
    | fin n =>
      cases st with
      | nil => exact absurd w.1 (by simp)
      | cons m st =>
        simp only [List.length_cons] at z1 z2
        simp only [Row.v]
        rw [show (m :: st).reverse.map intV = st.reverse.map intV ++ [V.int m] by simp [intV]] at ga
        repeat walk_at "m"
        refine ⟨hlr _ ?_, st, found, ko', ?_, ?_, ?_, ?_, ?_, ?_, ?_, ?_, ?_⟩
        · exact g.upd ha0
        · exact g.upd ha0
        · rw [Store.miss hfa gf]
        · rw [Store.hit]
        · walk_at "mget"
        · walk_at "mget"
        · exact w.2
        · exact e
        · omega
        · omega
    | call n x =>
      simp only [Row.v]
      repeat walk_at "m"
      exact ⟨hlr _ g, st, found, ko', g, gf, ga, by walk_at "mget", by walk_at "mget", w, e, by omega, by omega⟩
    | other k n r =>
      obtain ⟨o1, o2, o3⟩ := ko _ (.head _)
      simp only [Row.v]
      repeat walk_at "m"
      refine Br.f o1 ?_
      repeat walk_at "m"
      refine Br.f o2 ?_
      repeat walk_at "m"
      exact ⟨hlr _ g, st, found, ko', g, gf, ga, by walk_at "mget", by walk_at "mget", w, e, by omega, by omega⟩
  · rintro ρ σ1 ⟨st, found, -, g, gf, -, rf, -, -, e, -⟩
    repeat walk_at "m"
    rw [← e] at h
    simp only [insideF, List.append_nil] at h
    exact h f σ1 g hf gf
  · exact (Grow.rfl'.upd hf).upd ha0
  · exact Store.miss hfa Store.hit
  · exact Store.hit
  · walk_at "mget"
  · walk_at "mget"

theorem Store.swap {σ : Store} {c f : Addr} {x y z : O} (h : f ≠ c) : (σ.upd c y).upd f x = ((σ.upd c z).upd f x).upd c y := by
  funext b
  simp only [Store.upd]
  by_cases q : b = f
  · subst q; simp [h]
  · by_cases q2 : b = c
    · subst q2; simp [q]
    · simp [q, q2]
/-- a list of lists of numbers, its parts new since σ0 -/
def TurnsAt (σ0 σ : Store) (t : Addr) (acc : List (List Nat)) : Prop :=
  ∃ ads : List Addr, σ t = some (.list (ads.map V.ref)) ∧ ads.Nodup ∧ t ∉ ads ∧ (∀ a ∈ ads, σ0 a = none) ∧ ads.length = acc.length ∧ ∀ i a, ads[i]? = some a → σ a = some (.list ((acc.getD i []).map intV))
def okPairs : List (Nat × Option Nat) → Bool → Prop
  | [], _ => True
  | (_, none) :: r, _ => okPairs r true
  | (_, some _) :: r, b => b = true ∧ okPairs r true
theorem insideF_ok : ∀ (rows : List Row) (st : List Nat) (b : Bool), (b = false → st = []) → okPairs (insideF rows st) b
  | [], _, _, _ => trivial
  | .begin n t w :: r, st, b, h => by
    cases st with
    | nil => exact insideF_ok r _ true (by simp)
    | cons m st => exact ⟨by cases b <;> simp_all, insideF_ok r _ true (by simp)⟩
  | .fin _ :: r, st, b, h => insideF_ok r _ b fun e => by rw [h e]; rfl
  | .call _ _ :: r, st, b, h => insideF_ok r _ b h
  | .other _ _ _ :: r, st, b, h => insideF_ok r _ b h
theorem insideF_len : ∀ (rows : List Row) (st : List Nat), (insideF rows st).length ≤ rows.length
  | [], _ => by simp [insideF]
  | .begin n t w :: r, st => by have := insideF_len r (n :: st); simp [insideF]; omega
  | .fin _ :: r, st => by have := insideF_len r st.tail; simp [insideF]; omega
  | .call _ _ :: r, st => by have := insideF_len r st; simp [insideF]; omega
  | .other _ _ _ :: r, st => by have := insideF_len r st; simp [insideF]; omega
theorem TurnsAt.new {σ0 σ : Store} {t : Addr} {acc : List (List Nat)} (h : TurnsAt σ0 σ t acc) {b : Addr} (h0 : σ0 b = none) (hb : σ b = none) {ads : List Addr} (ht : σ t = some (.list (ads.map V.ref))) (xs : List Nat) :
    TurnsAt σ0 ((σ.upd b (.list (xs.map intV))).upd t (.list (ads.map V.ref ++ [.ref b]))) t (acc ++ [xs]) := by
  obtain ⟨ads', ht', nd, nt, n0, el, ev⟩ := h
  rw [ht] at ht'
  have : ads.map V.ref = ads'.map V.ref := by simpa using ht'
  have : ads = ads' := by
    have := congrArg (List.filterMap fun v => match v with | V.ref a => some a | _ => none) this
    simpa [List.filterMap_map, Function.comp_def] using this
  subst this
  have hbt : b ≠ t := fun e => by rw [e, ht] at hb; cases hb
  have hba : b ∉ ads := fun hm => by
    obtain ⟨i, hi⟩ := List.getElem?_of_mem hm
    rw [ev i b hi] at hb; cases hb
  refine ⟨ads ++ [b], by rw [Store.hit]; simp, ?_, ?_, ?_, by simp [el], ?_⟩
  · rw [List.nodup_append]; refine ⟨nd, by simp, ?_⟩; intro a ha c hc e; simp at hc; subst hc; subst e; exact hba ha
  · simp [nt, Ne.symm hbt]
  · intro a ha; rw [List.mem_append] at ha; rcases ha with q | q
    · exact n0 a q
    · simp at q; subst q; exact h0
  · intro i a hi
    by_cases q : i < ads.length
    · rw [List.getElem?_append_left q] at hi
      have ha : a ∈ ads := List.mem_of_getElem? hi
      have e1 : a ≠ t := fun e => nt (e ▸ ha)
      have e2 : a ≠ b := fun e => hba (e ▸ ha)
      rw [Store.miss e1 (Store.miss e2 (ev i a hi))]
      congr 2; simp [List.getD, List.getElem?_append_left (show i < acc.length by omega)]
    · rw [List.getElem?_append_right (by omega)] at hi
      have : i - ads.length = 0 := by
        cases hq : i - ads.length with
        | zero => rfl
        | succ k => rw [hq] at hi; simp at hi
      rw [this] at hi; simp at hi; subst hi
      rw [Store.miss hbt Store.hit]
      have : i = acc.length := by omega
      subst this; simp
theorem TurnsAt.add {σ0 σ : Store} {t : Addr} {acc : List (List Nat)} (h : TurnsAt σ0 σ t acc) (hne : acc ≠ []) (n : Nat) : ∃ ads a, σ t = some (.list (ads ++ [V.ref a])) ∧ ads.length + 1 = acc.length ∧ σ a = some (.list ((acc.getLastD []).map intV)) ∧ a ≠ t ∧ σ0 a = none ∧
    TurnsAt σ0 (σ.upd a (.list ((acc.getLastD []).map intV ++ [intV n]))) t (acc.dropLast ++ [acc.getLastD [] ++ [n]]) := by
  obtain ⟨ads, ht, nd, nt, n0, el, ev⟩ := h
  have hl : ads ≠ [] := fun e => by subst e; simp at el; exact hne (List.eq_nil_of_length_eq_zero el.symm)
  have hpos : 0 < ads.length := List.length_pos_iff.mpr hl
  have ea : ads[ads.length - 1]? = some (ads.getLast hl) := by rw [List.getLast_eq_getElem]; simp [hpos]
  have eacc : acc.getD (ads.length - 1) [] = acc.getLastD [] := by rw [el, List.getLastD_eq_getLast?, List.getLast?_eq_getElem?]; rfl
  have ha := ev _ _ ea
  rw [eacc] at ha
  have hmem := List.getLast_mem hl
  have hat : ads.getLast hl ≠ t := fun e => nt (e ▸ hmem)
  refine ⟨ads.dropLast.map V.ref, ads.getLast hl, ?_, by simp; omega, ha, hat, n0 _ hmem, ads, ?_, nd, nt, n0, ?_, ?_⟩
  · rw [ht]; congr 2
    conv => lhs; rw [← List.dropLast_concat_getLast hl]
    simp
  · rw [Store.miss (Ne.symm hat) ht]
  · simp; omega
  · intro i a hi
    have hi' : i < ads.length := (List.getElem?_eq_some_iff.mp hi).1
    by_cases q : i = ads.length - 1
    · subst q
      rw [ea] at hi; cases hi
      rw [Store.hit]
      have : acc.dropLast.length = ads.length - 1 := by simp; omega
      rw [List.getD_eq_getElem?_getD, List.getElem?_append_right (by omega), this]; simp
    · have hne : a ≠ ads.getLast hl := fun e => by
        subst e
        have := (List.getElem?_inj hi' nd).mp (hi.trans ea.symm)
        exact q this
      rw [Store.miss hne (ev i a hi)]
      congr 2
      rw [List.getD_eq_getElem?_getD, List.getD_eq_getElem?_getD, List.getElem?_append_left (by simp; omega), List.getElem?_dropLast, if_pos (by omega)]
theorem c_turns (hK : C.K = hd.heap_39 C.w.params) {l : Addr} {rows : List Row} {Q : V → Store → Prop} (hr : A.depth + 1 < recursionLimit) (hh : A.handled = none) (hl : σ l = some (.list (rows.map Row.v))) (hz : rows.length ≤ 1000) (hok : ∀ r ∈ rows, r.ok) (hw : wf rows 0)
    (h : ∀ a σ', Grow σ σ' → σ a = none → TurnsAt σ σ' a ((insideF rows []).foldl tStep []) → Q (.ref a) σ') : CallWP C A (.ref 33) [.ref l] σ Q X := by
  have hr0 : A.depth < recursionLimit := by omega
  walk_at "mdef1"
  intro L A' a1 a2 a3
  have hh' : A'.handled = none := a1.trans hh
  have hr' : A'.depth < recursionLimit := by rw [a2]; exact hr
  repeat walk_at "m"
  intro f hf
  repeat walk_at "m"
  refine c_inside hK hr' hh' (Store.at_fresh hf hl) hz hok hw fun b σ2 g2 hb hb2 => ?_
  have hbf : b ≠ f := fun e => by subst e; simp [Store.upd] at hb
  have hb0 : σ b = none := by simpa [Store.upd, hbf] using hb
  refine ⟨_, _, ItV.list hh' (.inl hb2), ?_⟩
  have g0 : Grow σ σ2 := (Grow.rfl'.fresh hf).trans g2
  refine ForL.inv pairV (fun ps ρ σ1 => ∃ acc, Grow σ σ1 ∧ TurnsAt (σ.upd b (.list [])) σ1 f acc ∧ σ1 b = some (.list ((insideF rows []).map pairV)) ∧ ρ.get "found" = some (.ref f) ∧ okPairs ps (!acc.isEmpty) ∧
    ps.foldl tStep acc = (insideF rows []).foldl tStep [] ∧ acc.length + ps.length ≤ 1000 ∧ (∀ x ∈ acc, x.length + ps.length ≤ 1000)) ?_ ?_ _ _ _ ⟨[], g0, ?_, hb2, ?_, ?_, rfl, ?_, by simp⟩
  · rintro ⟨n, o⟩ ps ρ σ1 ⟨acc, g, T, gb, rf, w, e, z1, z2⟩
    simp only [List.length_cons] at z1 z2
    obtain ⟨ads, ht, nd, nt, n0, el, ev⟩ := id T
    simp only [pairV]
    cases o with
    | none =>
      simp only [outV]
      repeat walk_at "m"
      intro c hc
      have hcf : c ≠ f := fun e => by rw [e, ht] at hc; cases hc
      have hcb : c ≠ b := fun e => by rw [e, gb] at hc; cases hc
      have N := T.new (by rw [Store.miss hcb (g.none hc)]) hc ht [n]
      rw [show (σ1.upd c (.list ([n].map intV))).upd f (.list (ads.map V.ref ++ [.ref c])) = ((σ1.upd c (.list [])).upd f (.list (ads.map V.ref ++ [.ref c]))).upd c (.list ([] ++ [V.int n])) from Store.swap (Ne.symm hcf)] at N
      repeat walk_at "m"
      have gb' := Store.miss (o := .list ([] ++ [V.int (n : Int)])) (Ne.symm hcb) (Store.miss (o := .list (ads.map V.ref ++ [.ref c])) hbf (Store.miss (o := .list []) (Ne.symm hcb) gb))
      refine ⟨.inl gb', _, (((g.fresh hc).upd hf).upd (g.none hc)), N, gb', by walk_at "mget", ?_, e, ?_, ?_⟩
      · have e : (acc ++ [[n]]).isEmpty = false := by cases acc <;> rfl
        rw [e]; exact w
      · simp; omega
      · intro x hx
        rw [List.mem_append] at hx
        rcases hx with q | q
        · have := z2 x q; omega
        · simp only [List.mem_singleton] at q; subst q; simp only [List.length_singleton]; omega
    | some m =>
      have hne : acc ≠ [] := by intro q; subst q; exact absurd w.1 (by simp)
      obtain ⟨ad, c, tt, tl, tc, tn, t0, T'⟩ := T.add hne n
      have z3 := z2 _ (show acc.getLastD [] ∈ acc by rw [List.getLastD_eq_getLast?, List.getLast?_eq_some_getLast hne]; exact List.getLast_mem hne)
      have hcb : c ≠ b := fun e => by subst e; simp [Store.upd] at t0
      have hc0 : σ c = none := by simpa [Store.upd, hcb] using t0
      simp only [outV]
      repeat walk_at "m"
      refine ⟨.inl (Store.miss (Ne.symm hcb) gb), _, g.upd hc0, T', Store.miss (Ne.symm hcb) gb, by walk_at "mget", ?_, e, ?_, ?_⟩
      · have e : ∀ (a : List (List Nat)) b, (a ++ [b]).isEmpty = false := by intro a b; cases a <;> rfl
        rw [e]; exact w.2
      · simp; omega
      · intro x hx
        rw [List.mem_append] at hx
        rcases hx with q | q
        · have := z2 x (List.dropLast_subset _ q); omega
        · simp only [List.mem_singleton] at q; subst q; simp only [List.length_append, List.length_singleton]; omega
  · rintro ρ σ1 ⟨acc, g, T, gb, rf, w, e, z1, z2⟩
    repeat walk_at "m"
    simp only [List.foldl_nil] at e
    refine h f σ1 g hf ?_
    rw [← e]
    obtain ⟨ads, ht, nd, nt, n0, el, ev⟩ := id T
    refine ⟨ads, ht, nd, nt, fun a ha => ?_, el, ev⟩
    have := n0 a ha
    by_cases q : a = b
    · subst q; simp [Store.upd] at this
    · simpa [Store.upd, q] using this
  · exact ⟨[], g2 _ _ Store.hit, by simp, by simp, by simp, rfl, by simp⟩
  · walk_at "mget"
  · exact insideF_ok rows [] false (fun _ => rfl)
  · have := insideF_len rows []; simp; omega

def evV (w : Str) : V := .tup [.str w, .none, .str "wait", .int 0]
theorem line_ok {k n : Nat} {w : Str} (hk : k ≤ 1000) (hn : n < 64) (hw : w.length ≤ 12) : MulOk "  " k ∧ (Txt.mul "  " k).length + (Str.ofString (toString (n : Int))).length ≤ sizeLine ∧ (Txt.mul "  " k ++ Str.ofString (toString (n : Int))).length + (" " : Str).length ≤ sizeLine ∧
    (Txt.mul "  " k ++ Str.ofString (toString (n : Int)) ++ " ").length + w.length ≤ sizeLine := by
  have e2 : ("  " : Str).length = 2 := by decide +kernel
  have e1 : (" " : Str).length = 1 := by decide +kernel
  have m := mul_length (x := "  ") (n := k)
  have d := digits_short n (by omega)
  simp only [Str.length_append, m, e1, e2, sizeLine_eq]
  exact ⟨mulOk_small (by rw [e2]; decide) (by omega), by omega, by omega, by omega⟩
theorem line_ok2 {k : Nat} {w : Str} (hk : k ≤ 1000) (hw : w.length ≤ 12) : MulOk "  " k ∧ (Txt.mul "  " k).length + ("- " : Str).length ≤ sizeLine ∧ (Txt.mul "  " k ++ "- ").length + w.length ≤ sizeLine := by
  have e2 : ("  " : Str).length = 2 := by decide +kernel
  have e1 : ("- " : Str).length = 2 := by decide +kernel
  have m := mul_length (x := "  ") (n := k)
  simp only [Str.length_append, m, e1, e2, sizeLine_eq]
  exact ⟨mulOk_small (by rw [e2]; decide) (by omega), by omega, by omega⟩
theorem log_small {n : Nat} (h : n < 64) : (n : Int).natAbs.log2 < 1920 := by
  have : (n : Int).natAbs = n := by omega
  rw [this]
  by_cases h0 : n = 0
  · subst h0; decide
  · exact (Nat.log2_lt h0).mpr (Nat.lt_of_lt_of_le h (by decide +kernel))
theorem c_drawn (hK : C.K = hd.heap_39 C.w.params) {l ev : Addr} {rows : List Row} {ws : List Str} {Q : V → Store → Prop} (hr : A.depth < recursionLimit) (hh : A.handled = none) (hl : σ l = some (.list (rows.map Row.v))) (he : σ ev = some (.list (ws.map evV))) (hz : rows.length ≤ 1000) (hok : ∀ r ∈ rows, r.ok) (hw : wf rows 0)
    (hev : ∀ n t w, Row.begin n t w ∈ rows → ws[n]? = some w)
    (h : ∀ a σ', Grow σ σ' → σ a = none → σ' a = some (.list ((drawnF rows 0).map V.str)) → Q (.ref a) σ') : CallWP C A (.ref 40) [.ref l, .ref ev] σ Q X := by
  walk_at "mdef2"
  intro L A' a1 a2 a3
  have hh' : A'.handled = none := a1.trans hh
  repeat walk_at "m"
  intro f hf
  repeat walk_at "m"
  refine ⟨_, _, ItV.list hh' (.inl (Store.at_fresh hf hl)), ?_⟩
  refine ForL.inv Row.v (fun rs ρ σ1 => ∃ (k : Nat) (found : List Str), (∀ r ∈ rs, r.ok) ∧ (∀ n t w, Row.begin n t w ∈ rs → ws[n]? = some w) ∧ Grow σ σ1 ∧ σ1 f = some (.list (List.map V.str found)) ∧ ρ.get "found" = some (.ref f) ∧ ρ.get "deep" = some (.int k) ∧ ρ.get "events" = some (.ref ev) ∧ wf rs k ∧
    found ++ drawnF rs k = drawnF rows 0 ∧ found.length + rs.length ≤ 1000 ∧ k + rs.length ≤ 1000) ?_ ?_ _ _ _ ⟨0, [], hok, hev, ?_, ?_, ?_, ?_, ?_, hw, rfl, by simpa using hz, by simpa using hz⟩
  · rintro r rs ρ σ1 ⟨k, found, ko, kev, g, gf, rf, rd, re, w, e, z1, z2⟩
    simp only [List.length_cons] at z1 z2
    have hlr : ∀ σ' : Store, Grow σ σ' → LstAt C σ' l (rows.map Row.v) := fun σ' g' => .inl (g' _ _ hl)
    have ko' := fun r hr => ko r (.tail _ hr)
    have kev' := fun n t w hm => kev n t w (.tail _ hm)
    cases r with
    | begin n t ww =>
      obtain ⟨o1, o2, o3⟩ := ko _ (.head _)
      have oe := kev n t ww (.head _)
      obtain ⟨p1, p2, p3, p4⟩ := line_ok (k := k) (by omega) o1 o2
      simp only [Row.v]
      repeat walk_at "m"
      refine BinWP.mul_str p1 ?_
      repeat walk_at "m"
      refine CallWP.str_int (log_small o1) ?_
      refine BinWP.add_str ?_ p2
      repeat walk_at "m"
      refine BinWP.add_str ?_ p3
      repeat walk_at "m"
      refine ItemWP.list (xs := ws.map evV) (y := evV ww) (.inl (g _ _ he)) (by omega) (by omega) (by simp [oe]) ?_
      simp only [evV]
      repeat walk_at "m"
      refine BinWP.add_str ?_ p4
      repeat walk_at "m"
      refine ⟨hlr _ (g.upd hf), k + 1, found ++ [line1 k n ww], ko', kev', g.upd hf, ?_, by walk_at "mget", ?_, by walk_at "mget", w, ?_, by simp; omega, by omega⟩
      · rw [Store.hit]; simp [line1]
      · have : ((k + 1 : Nat) : Int) = (k : Int) + 1 := by omega
        rw [this]; walk_at "mget"
      · rw [← e]; simp [drawnF]
    | fin n =>
      simp only [Row.v]
      repeat walk_at "m"
      refine ⟨hlr _ g, k - 1, found, ko', kev', g, gf, by walk_at "mget", ?_, by walk_at "mget", w.2, e, by omega, by omega⟩
      have : ((k - 1 : Nat) : Int) = (k : Int) - 1 := by have := w.1; omega
      rw [this]; walk_at "mget"
    | call n x =>
      obtain ⟨o2, o3⟩ := ko _ (.head _)
      obtain ⟨p1, p2, p3⟩ := line_ok2 (k := k) (by omega) o2
      simp only [Row.v]
      repeat walk_at "m"
      refine BinWP.mul_str p1 ?_
      repeat walk_at "m"
      refine BinWP.add_str ?_ p2
      repeat walk_at "m"
      refine BinWP.add_str ?_ p3
      repeat walk_at "m"
      refine ⟨hlr _ (g.upd hf), k, found ++ [line2 k x], ko', kev', g.upd hf, ?_, by walk_at "mget", by walk_at "mget", by walk_at "mget", w, ?_, by simp; omega, by omega⟩
      · rw [Store.hit]; simp [line2]
      · rw [← e]; simp [drawnF]
    | other kk n r =>
      obtain ⟨o1, o2, o3⟩ := ko _ (.head _)
      simp only [Row.v]
      repeat walk_at "m"
      refine Br.f o1 ?_
      repeat walk_at "m"
      refine Br.f o3 ?_
      repeat walk_at "m"
      refine Br.f o2 ?_
      repeat walk_at "m"
      exact ⟨hlr _ g, k, found, ko', kev', g, gf, by walk_at "mget", by walk_at "mget", by walk_at "mget", w, e, by omega, by omega⟩
  · rintro ρ σ1 ⟨k, found, -, -, g, gf, rf, -, -, -, e, -⟩
    repeat walk_at "m"
    rw [← e] at h
    simp only [drawnF, List.append_nil] at h
    exact h f σ1 g hf gf
  · exact Grow.rfl'.upd hf
  · exact Store.hit
  · walk_at "mget"
  · show Rho.get _ _ = some (.int 0); walk_at "mget"
  · walk_at "mget"

def alphabet : Str := "abcdefghijklmnopqrstuvwxyz"
theorem alphabet_at : ∀ k : Nat, k < 26 → (((seqIndex? (k : Int) alphabet.length).bind (alphabet.cps[·]?)).any (fun c => decide (c < 0x110000))) = true := by decide +kernel
def letterOf (e : Int) : Nat := ((seqIndex? e alphabet.length).bind (alphabet.cps[·]?)).getD 0
theorem letter_ok {e : Int} (h0 : 0 ≤ e) (h1 : e < 26) : (seqIndex? e alphabet.length).bind (alphabet.cps[·]?) = some (letterOf e) ∧ letterOf e < 0x110000 := by
  have := alphabet_at e.toNat (by omega)
  rw [Option.any_eq_true] at this
  obtain ⟨c, hc, hl⟩ := this
  rw [show ((e.toNat : Nat) : Int) = e by omega] at hc
  refine ⟨by rw [letterOf, hc]; rfl, by rw [letterOf, hc]; simpa using hl⟩
theorem c_word (hK : C.K = hd.heap_39 C.w.params) {c : Int} {Q : V → Store → Prop} (hr : A.depth < recursionLimit) (hh : A.handled = none)
    (h : ∀ w σ', w.length ≤ 12 → PyData.strOk w = true → Grow σ σ' → Q (.str w) σ') : CallWP C A (.ref 52) [.int c] σ Q X := by
  walk_at "mdef1"
  intro L A' a1 a2 a3
  have hh' : A'.handled = none := a1.trans hh
  repeat walk_at "m"
  have b1 := Int.fmod_nonneg_of_pos (c.fdiv 130) (show (0 : Int) < 12 by decide)
  have b2 := Int.fmod_lt_of_pos (c.fdiv 130) (show (0 : Int) < 12 by decide)
  have b3 := Int.fmod_nonneg_of_pos (c.fdiv 26) (show (0 : Int) < 5 by decide)
  have b4 := Int.fmod_lt_of_pos (c.fdiv 26) (show (0 : Int) < 5 by decide)
  generalize hn : (c.fdiv 130).fmod 12 = n at *
  refine ⟨_, _, ItV.rng hh' (by decide) (by decide) (by omega) (by omega), fun L' => ?_⟩
  have hmem : ∀ y ∈ irange 0 (1 + n), ∃ k : Nat, y = .int (0 + (k : Int)) ∧ k < 12 := by
    intro y hy
    simp only [irange, List.mem_map, List.mem_range] at hy
    obtain ⟨i, hi, rfl⟩ := hy
    exact ⟨i, rfl, by omega⟩
  have hlen : (irange 0 (1 + n)).length ≤ 12 := by simp [irange]; omega
  refine CmpL.pure (fun _ => true) (fun y => match y with | .int k => .str ⟨#[letterOf ((c + 7 * k * (1 + (c.fdiv 26).fmod 5)).fmod 26)]⟩ | _ => .none) trivial _ _ ?_ ?_ (by simp [sizeLine_eq]; omega) ?_
  · intro y hy Q hQ
    repeat walk_at "m"
    exact hQ
  · intro y hy _ Q hQ
    obtain ⟨k, rfl, hk⟩ := hmem y hy
    have e1 := Int.fmod_nonneg_of_pos (c + 7 * (0 + (k : Int)) * (1 + (c.fdiv 26).fmod 5)) (show (0 : Int) < 26 by decide)
    have e2 := Int.fmod_lt_of_pos (c + 7 * (0 + (k : Int)) * (1 + (c.fdiv 26).fmod 5)) (show (0 : Int) < 26 by decide)
    repeat walk_at "m"
    exact ItemWP.str (by omega) (by omega) (letter_ok e1 e2).1 hQ
  · intro a ha
    repeat walk_at "m"
    have hts : ∃ ts : List Str, [] ++ List.map (fun y => match y with | V.int k => V.str ⟨#[letterOf ((c + 7 * k * (1 + (c.fdiv 26).fmod 5)).fmod 26)]⟩ | _ => .none) (List.filter (fun _ => true) (irange 0 (1 + n))) = ts.map V.str ∧ ts.length ≤ 12 ∧ ∀ t ∈ ts, t.length ≤ 1 ∧ PyData.strOk t = true := by
      rw [List.nil_append, List.filter_eq_self.mpr (fun _ _ => rfl)]
      clear hn
      revert hmem hlen
      generalize irange 0 (1 + n) = ys
      have gen : ∀ (ys : List V), (∀ y ∈ ys, ∃ k : Nat, y = .int (0 + (k : Int)) ∧ k < 12) → ∃ ts : List Str, List.map (fun y => match y with | V.int k => V.str ⟨#[letterOf ((c + 7 * k * (1 + (c.fdiv 26).fmod 5)).fmod 26)]⟩ | _ => .none) ys = ts.map V.str ∧ ts.length = ys.length ∧ ∀ t ∈ ts, t.length ≤ 1 ∧ PyData.strOk t = true := by
        intro ys
        induction ys with
        | nil => exact fun _ => ⟨[], rfl, rfl, by simp⟩
        | cons y ys ih =>
          intro hm
          obtain ⟨ts, t1, t2, t3⟩ := ih fun y hy => hm y (.tail _ hy)
          obtain ⟨k, rfl, hk⟩ := hm y (.head _)
          refine ⟨⟨#[letterOf ((c + 7 * (0 + (k : Int)) * (1 + (c.fdiv 26).fmod 5)).fmod 26)]⟩ :: ts, by simp [t1], by simp [t2], ?_⟩
          intro t ht
          rcases List.mem_cons.mp ht with rfl | q
          · exact ⟨Nat.le_refl 1, strOk_one (letter_ok (Int.fmod_nonneg_of_pos _ (by decide)) (Int.fmod_lt_of_pos _ (by decide))).2⟩
          · exact t3 t q
      intro hm hl
      obtain ⟨ts, t1, t2, t3⟩ := gen ys hm
      exact ⟨ts, t1, by omega, t3⟩
    obtain ⟨ts, t1, t2, t3⟩ := hts
    rw [t1]
    refine CallWP.join (.inl Store.hit) (joinOk_of (B := 1) (fun y hy => (t3 y hy).1) (by omega)) ?_
    have := join_len (ts := ts) (B := 1) fun y hy => (t3 y hy).1
    exact h _ _ (Nat.le_trans this (by omega)) (strOk_join fun t ht => (t3 t ht).2) (Grow.rfl'.fresh ha)

structure LS where
  st : List Nat
  ev : List Str
  bg : List Nat
  ins : List (Nat × Option Nat)
  tn : List (List Nat)
  dr : List Str
def stepS (S : LS) : Row → LS
  | .begin n _ w => ⟨n :: S.st, S.ev ++ [w], S.bg ++ [n], S.ins ++ [(n, S.st.head?)], tStep S.tn (n, S.st.head?), S.dr ++ [line1 S.st.length n w]⟩
  | .fin _ => { S with st := S.st.tail }
  | .call _ x => { S with dr := S.dr ++ [line2 S.st.length x] }
  | .other _ _ _ => S
def LS.can (S : LS) : Row → Prop
  | .begin n _ w => n = S.ev.length ∧ w.length ≤ 12 ∧ PyData.strOk w = true
  | .fin n => S.st.head? = some n
  | .call _ x => x.length ≤ 12 ∧ PyData.strOk x = true
  | .other k _ _ => (Str.ofString k == "begin") = false ∧ (Str.ofString k == "end") = false ∧ (Str.ofString k == "call") = false
structure LS.Small (S : LS) (m : Nat) : Prop where
  st : S.st.length ≤ m
  ev : S.ev.length ≤ m
  bg : S.bg.length ≤ m
  ins : S.ins.length ≤ m
  tn : S.tn.length ≤ m
  tns : ∀ x ∈ S.tn, x.length ≤ m
  dr : S.dr.length ≤ m
  go : S.st ≠ [] → S.tn ≠ []
abbrev ownD (aA aE aB aI aT aD : Addr) : O := .sd [("around", .ref aA), ("events", .ref aE), ("begun", .ref aB), ("inside", .ref aI), ("turns", .ref aT), ("drawn", .ref aD)]
def lmt (as : List Addr) : Store := fun b => if b ∈ as then some (.list []) else none
structure OwnAt (σ : Store) (d aA aE aB aI aT aD : Addr) (S : LS) : Prop where
  hd : σ d = some (ownD aA aE aB aI aT aD)
  nd : [d, aA, aE, aB, aI, aT, aD].Nodup
  a : σ aA = some (.list (S.st.reverse.map intV))
  e : σ aE = some (.list (S.ev.map evV))
  b : σ aB = some (.list (S.bg.map intV))
  i : σ aI = some (.list (S.ins.map pairV))
  t : TurnsAt (lmt [d, aA, aE, aB, aI, aT, aD]) σ aT S.tn
  r : σ aD = some (.list (S.dr.map V.str))
theorem TurnsAt.frame {σ0 σ σ' : Store} {t : Addr} {acc : List (List Nat)} (T : TurnsAt σ0 σ t acc) (h : σ' t = σ t) (k : ∀ b o, σ0 b = none → σ b = some o → σ' b = some o) : TurnsAt σ0 σ' t acc := by
  obtain ⟨ads, ht, nd, nt, n0, el, ev⟩ := T
  refine ⟨ads, by rw [h, ht], nd, nt, n0, el, fun i a hi => ?_⟩
  exact k a _ (n0 a (List.mem_of_getElem? hi)) (ev i a hi)
theorem TurnsAt.out {as : List Addr} {σ : Store} {t a : Addr} {acc : List (List Nat)} {o : O} (T : TurnsAt (lmt as) σ t acc) (h1 : a ≠ t) (h2 : a ∈ as) : TurnsAt (lmt as) (σ.upd a o) t acc :=
  T.frame (Store.miss (Ne.symm h1) rfl) fun b o' hb e => Store.miss (fun q => by subst q; simp [lmt, h2] at hb) e
theorem OwnAt.grow {σ σ' : Store} {d aA aE aB aI aT aD : Addr} {S : LS} (O : OwnAt σ d aA aE aB aI aT aD S) (g : Grow σ σ') : OwnAt σ' d aA aE aB aI aT aD S := by
  refine ⟨g _ _ O.hd, O.nd, g _ _ O.a, g _ _ O.e, g _ _ O.b, g _ _ O.i, ?_, g _ _ O.r⟩
  obtain ⟨ads, ht, _⟩ := id O.t
  exact O.t.frame (by rw [ht, g _ _ ht]) fun b o _ e => g b o e
theorem TurnsAt.frame2 {as : List Addr} {σ σ' : Store} {t : Addr} {acc : List (List Nat)} (T : TurnsAt (lmt as) σ t acc) (k : ∀ b, b ∉ as ∨ b = t → σ' b = σ b) : TurnsAt (lmt as) σ' t acc :=
  T.frame (k t (.inr rfl)) fun b o hb e => by
    rw [k b (.inl fun hm => by simp [lmt, hm] at hb)]; exact e
theorem own_begin0 {σ : Store} {d aA aE aB aI aT aD x : Addr} {S : LS} {ads : List Addr} {t : Int} {w : Str} (O : OwnAt σ d aA aE aB aI aT aD S) (hst : S.st = []) (hx : σ x = none) (ht : σ aT = some (.list (ads.map V.ref))) :
    OwnAt (((((((σ.upd aE (.list (S.ev.map evV ++ [evV w]))).upd aB (.list (S.bg.map intV ++ [intV S.ev.length]))).upd x (.list [intV S.ev.length])).upd aT (.list (ads.map V.ref ++ [.ref x]))).upd
      aI (.list (S.ins.map pairV ++ [.tup [.int S.ev.length, .none]]))).upd aD (.list (S.dr.map V.str ++ [.str (line1 0 S.ev.length w)]))).upd aA (.list ([] ++ [intV S.ev.length]))) d aA aE aB aI aT aD (stepS S (.begin S.ev.length t w)) := by
  have nd := O.nd
  simp only [List.nodup_cons, List.mem_cons, List.not_mem_nil, or_false, not_or, not_false_eq_true, List.nodup_nil, and_true] at nd
  obtain ⟨⟨nd1, nd2, nd3, nd4, nd5, nd6⟩, ⟨nd7, nd8, nd9, nd10, nd11⟩, ⟨nd12, nd13, nd14, nd15⟩, ⟨nd16, nd17, nd18⟩, ⟨nd19, nd20⟩, nd21⟩ := nd
  obtain ⟨pd, -, pa, pe, pb, pi, pT, pr⟩ := id O
  have x1 : x ≠ aE := fun e => by rw [e, pe] at hx; cases hx
  have x2 : x ≠ aB := fun e => by rw [e, pb] at hx; cases hx
  have x3 : x ≠ aA := fun e => by rw [e, pa] at hx; cases hx
  have x4 : x ≠ aI := fun e => by rw [e, pi] at hx; cases hx
  have x5 : x ≠ aD := fun e => by rw [e, pr] at hx; cases hx
  have x6 : x ≠ d := fun e => by rw [e, pd] at hx; cases hx
  have x7 : x ≠ aT := fun e => by rw [e, ht] at hx; cases hx
  have N := pT.new (b := x) (by simp [lmt, x1, x2, x3, x4, x5, x6, x7]) hx ht [S.ev.length]
  refine ⟨?_, O.nd, ?_, ?_, ?_, ?_, ?_, ?_⟩
  · walk_at "mst"
  · rw [Store.hit]; simp [stepS, hst]
  · simp only [stepS, List.map_append, List.map_cons, List.map_nil]; walk_at "mst"
  · simp only [stepS, List.map_append, List.map_cons, List.map_nil]; walk_at "mst"
  · simp only [stepS, List.map_append, List.map_cons, List.map_nil, hst, pairV, List.head?_nil, outV]; walk_at "mst"
  · simp only [stepS, hst, List.head?_nil, tStep]
    refine N.frame2 fun b hb => ?_
    have hn : b ≠ aE ∧ b ≠ aB ∧ b ≠ aI ∧ b ≠ aD ∧ b ≠ aA := by
      rcases hb with q | rfl
      · simp only [List.mem_cons, List.not_mem_nil, or_false, not_or] at q
        obtain ⟨q1, q2, q3, q4, q5, q6, q7⟩ := q
        exact ⟨q3, q4, q5, q7, q2⟩
      · exact ⟨Ne.symm nd14, Ne.symm nd17, Ne.symm nd19, nd21, Ne.symm nd10⟩
    obtain ⟨h1, h2, h3, h4, h5⟩ := hn
    by_cases q : b = aT
    · subst q; simp [Store.upd, h1, h2, h3, h4, h5]
    · by_cases q2 : b = x
      · subst q2; simp [Store.upd, h1, h2, h3, h4, h5, q]
      · simp [Store.upd, h1, h2, h3, h4, h5, q, q2]
  · simp only [stepS, List.map_append, List.map_cons, List.map_nil, hst, List.length_nil]; walk_at "mst"
theorem own_begin1 {σ : Store} {d aA aE aB aI aT aD a : Addr} {S : LS} {m : Nat} {st : List Nat} {t : Int} {w : Str} (O : OwnAt σ d aA aE aB aI aT aD S) (hst : S.st = m :: st)
    (a0 : lmt [d, aA, aE, aB, aI, aT, aD] a = none) (T : TurnsAt (lmt [d, aA, aE, aB, aI, aT, aD]) (σ.upd a (.list ((S.tn.getLastD []).map intV ++ [intV S.ev.length]))) aT (S.tn.dropLast ++ [S.tn.getLastD [] ++ [S.ev.length]])) :
    OwnAt ((((((σ.upd aE (.list (S.ev.map evV ++ [evV w]))).upd aB (.list (S.bg.map intV ++ [intV S.ev.length]))).upd a (.list ((S.tn.getLastD []).map intV ++ [intV S.ev.length]))).upd
      aI (.list (S.ins.map pairV ++ [.tup [.int S.ev.length, .int m]]))).upd aD (.list (S.dr.map V.str ++ [.str (line1 S.st.length S.ev.length w)]))).upd aA (.list (st.reverse.map intV ++ [V.int m] ++ [intV S.ev.length]))) d aA aE aB aI aT aD (stepS S (.begin S.ev.length t w)) := by
  have nd := O.nd
  simp only [List.nodup_cons, List.mem_cons, List.not_mem_nil, or_false, not_or, not_false_eq_true, List.nodup_nil, and_true] at nd
  obtain ⟨⟨nd1, nd2, nd3, nd4, nd5, nd6⟩, ⟨nd7, nd8, nd9, nd10, nd11⟩, ⟨nd12, nd13, nd14, nd15⟩, ⟨nd16, nd17, nd18⟩, ⟨nd19, nd20⟩, nd21⟩ := nd
  obtain ⟨pd, -, pa, pe, pb, pi, pT, pr⟩ := id O
  have hx : ∀ b ∈ [d, aA, aE, aB, aI, aT, aD], a ≠ b := fun b hb e => by subst e; simp only [lmt, hb, if_true] at a0; cases a0
  have x1 := hx aE (by simp); have x2 := hx aB (by simp); have x3 := hx aA (by simp); have x4 := hx aI (by simp); have x5 := hx aD (by simp); have x6 := hx d (by simp); have x7 := hx aT (by simp)
  refine ⟨?_, O.nd, ?_, ?_, ?_, ?_, ?_, ?_⟩
  · walk_at "mst"
  · rw [Store.hit]; simp [stepS, hst, intV]
  · simp only [stepS, List.map_append, List.map_cons, List.map_nil]; walk_at "mst"
  · simp only [stepS, List.map_append, List.map_cons, List.map_nil]; walk_at "mst"
  · simp only [stepS, List.map_append, List.map_cons, List.map_nil, hst, pairV, List.head?_cons, outV]; walk_at "mst"
  · simp only [stepS, hst, List.head?_cons, tStep]
    refine T.frame2 fun b hb => ?_
    have hn : b ≠ aE ∧ b ≠ aB ∧ b ≠ aI ∧ b ≠ aD ∧ b ≠ aA := by
      rcases hb with q | rfl
      · simp only [List.mem_cons, List.not_mem_nil, or_false, not_or] at q
        obtain ⟨q1, q2, q3, q4, q5, q6, q7⟩ := q
        exact ⟨q3, q4, q5, q7, q2⟩
      · exact ⟨Ne.symm nd14, Ne.symm nd17, Ne.symm nd19, nd21, Ne.symm nd10⟩
    obtain ⟨h1, h2, h3, h4, h5⟩ := hn
    by_cases q2 : b = a
    · subst q2; simp [Store.upd, h1, h2, h3, h4, h5]
    · simp [Store.upd, h1, h2, h3, h4, h5, q2]
  · simp only [stepS, List.map_append, List.map_cons, List.map_nil]; walk_at "mst"
theorem own_fin {σ : Store} {d aA aE aB aI aT aD : Addr} {S : LS} {m : Nat} {st : List Nat} (O : OwnAt σ d aA aE aB aI aT aD S) (hst : S.st = m :: st) : OwnAt (σ.upd aA (.list (st.reverse.map intV))) d aA aE aB aI aT aD (stepS S (.fin m)) := by
  have nd := O.nd
  simp only [List.nodup_cons, List.mem_cons, List.not_mem_nil, or_false, not_or, not_false_eq_true, List.nodup_nil, and_true] at nd
  obtain ⟨⟨nd1, nd2, nd3, nd4, nd5, nd6⟩, ⟨nd7, nd8, nd9, nd10, nd11⟩, ⟨nd12, nd13, nd14, nd15⟩, ⟨nd16, nd17, nd18⟩, ⟨nd19, nd20⟩, nd21⟩ := nd
  obtain ⟨pd, -, pa, pe, pb, pi, pT, pr⟩ := id O
  refine ⟨?_, O.nd, ?_, ?_, ?_, ?_, ?_, ?_⟩
  · walk_at "mst"
  · rw [Store.hit]; simp [stepS, hst]
  · simp only [stepS]; walk_at "mst"
  · simp only [stepS]; walk_at "mst"
  · simp only [stepS]; walk_at "mst"
  · exact pT.out (by assumption) (by simp)
  · simp only [stepS]; walk_at "mst"
theorem own_call {σ : Store} {d aA aE aB aI aT aD : Addr} {S : LS} {n : Nat} {x : Str} (O : OwnAt σ d aA aE aB aI aT aD S) : OwnAt (σ.upd aD (.list (S.dr.map V.str ++ [.str (line2 S.st.length x)]))) d aA aE aB aI aT aD (stepS S (.call n x)) := by
  have nd := O.nd
  simp only [List.nodup_cons, List.mem_cons, List.not_mem_nil, or_false, not_or, not_false_eq_true, List.nodup_nil, and_true] at nd
  obtain ⟨⟨nd1, nd2, nd3, nd4, nd5, nd6⟩, ⟨nd7, nd8, nd9, nd10, nd11⟩, ⟨nd12, nd13, nd14, nd15⟩, ⟨nd16, nd17, nd18⟩, ⟨nd19, nd20⟩, nd21⟩ := nd
  obtain ⟨pd, -, pa, pe, pb, pi, pT, pr⟩ := id O
  refine ⟨?_, O.nd, ?_, ?_, ?_, ?_, ?_, ?_⟩
  · walk_at "mst"
  · simp only [stepS]; walk_at "mst"
  · simp only [stepS]; walk_at "mst"
  · simp only [stepS]; walk_at "mst"
  · simp only [stepS]; walk_at "mst"
  · exact pT.out (Ne.symm nd21) (by simp)
  · simp only [stepS, List.map_append, List.map_cons, List.map_nil]; walk_at "mst"

theorem c_row_b (hK : C.K = hd.heap_39 C.w.params) {d aA aE aB aI aT aD : Addr} {S : LS} {c : Int} {Q : V → Store → Prop} (hr : A.depth + 1 < recursionLimit) (hh : A.handled = none) (O : OwnAt σ d aA aE aB aI aT aD S) (sm : S.Small 63)
    (hbeg : c.fmod 9 < 3 ∨ (¬ c.fmod 9 < 3 ∧ S.st = []))
    (h : ∀ r σ', S.can r → OwnAt σ' d aA aE aB aI aT aD (stepS S r) → Q r.v σ') : CallWP C A (.ref 59) [.ref d, .int c] σ Q X := by
  have hr0 : A.depth < recursionLimit := by omega
  have nd := O.nd
  simp only [List.nodup_cons, List.mem_cons, List.not_mem_nil, or_false, not_or, not_false_eq_true, List.nodup_nil, and_true] at nd
  obtain ⟨⟨nd1, nd2, nd3, nd4, nd5, nd6⟩, ⟨nd7, nd8, nd9, nd10, nd11⟩, ⟨nd12, nd13, nd14, nd15⟩, ⟨nd16, nd17, nd18⟩, ⟨nd19, nd20⟩, nd21⟩ := nd
  obtain ⟨od, -, oa, oe, ob, oi, oT, or⟩ := id O
  have s1 := sm.st; have s2 := sm.ev; have s3 := sm.bg; have s4 := sm.ins; have s5 := sm.tn; have s6 := sm.dr
  walk_at "mdef2"
  intro L A' a1 a2 a3
  have hh' : A'.handled = none := a1.trans hh
  have hr' : A'.depth < recursionLimit := by rw [a2]; exact hr
  rcases hbeg with q | ⟨q, q'⟩
  case' inl =>
    repeat walk_at "m"
    refine Br.t (decide_eq_true q) (Br.t rfl ?_)
  case' inr =>
    repeat walk_at "m"
    refine Br.f (decide_eq_false q) ?_
    repeat walk_at "m"
    refine Br.t (by rw [q']; rfl) (Br.t rfl ?_)
  all_goals
    repeat walk_at "m"
    refine c_word hK hr' hh' fun w σ2 w1 w2 g => ?_
    obtain ⟨pd, -, pa, pe, pb, pi, pT, pr⟩ := id (O.grow g)
    repeat walk_at "m"
  all_goals
    obtain ⟨p1, p2, p3, p4⟩ := line_ok (k := (List.map intV S.st.reverse).length) (n := (List.map evV S.ev).length) (w := w) (by simp; omega) (by simp; omega) w1
    have e1 : (List.map evV S.ev).length = S.ev.length := List.length_map ..
    cases hst : S.st with
    | nil =>
      rw [hst] at pa p1 p2 p3 p4
      refine Br.f rfl ?_
      obtain ⟨ads, ht, tnd, tnt, tn0, tel, tev⟩ := id pT
      have hz1 : (ads.map V.ref).length ≤ sizeLine := by rw [List.length_map, tel, sizeLine_eq]; omega
      repeat walk_at "m"
      intro x hx
      have hxT : aT ≠ x := fun e => by subst e; simp [Store.upd, ht, nd14, nd17, Ne.symm nd14, Ne.symm nd17] at hx
      repeat walk_at "m"
      refine BinWP.mul_str p1 ?_
      repeat walk_at "m"
      refine CallWP.str_int (log_small (by simp; omega)) ?_
      refine BinWP.add_str ?_ p2
      repeat walk_at "m"
      refine BinWP.add_str ?_ p3
      repeat walk_at "m"
      refine BinWP.add_str ?_ p4
      repeat walk_at "m"
      have hx1 : x ≠ aE := fun e => by rw [e, Store.miss nd12 Store.hit] at hx; cases hx
      have hx2 : x ≠ aB := fun e => by rw [e, Store.hit] at hx; cases hx
      have hx0 : σ2 x = none := by simpa [Store.upd, hx1, hx2] using hx
      rw [e1]
      exact h (.begin S.ev.length ((c.fdiv 9).fmod 1000) w) _ ⟨rfl, w1, w2⟩ (own_begin0 (O.grow g) hst hx0 ht)
    | cons m st' =>
      first
      | (exfalso; rw [hst] at q'; cases q'; done)
      | (have hne := sm.go (by rw [hst]; simp)
         rw [hst] at p1 p2 p3 p4
         rw [hst, show (m :: st').reverse.map intV = st'.reverse.map intV ++ [V.int m] by simp [intV]] at pa
         rw [show (m :: st').reverse.map intV = st'.reverse.map intV ++ [V.int m] by simp [intV]] at p1 p2 p3 p4 ⊢
         have s1' := s1
         rw [hst, List.length_cons] at s1'
         refine Br.t (by simp) ?_
         obtain ⟨ad, y, tt, tl, ty, tyt, ty0, T'⟩ := pT.add hne S.ev.length
         have hx : ∀ b ∈ [d, aA, aE, aB, aI, aT, aD], y ≠ b := fun b hb e => by subst e; simp only [lmt, hb, if_true] at ty0; cases ty0
         have x1 := hx aE (by simp); have x2 := hx aB (by simp); have x3 := hx aA (by simp); have x4 := hx aI (by simp); have x5 := hx aD (by simp); have x6 := hx d (by simp); have x7 := hx aT (by simp)
         have z9 : (List.map intV (S.tn.getLastD [])).length ≤ sizeLine := by
           rw [List.length_map, sizeLine_eq]
           have := sm.tns _ (show S.tn.getLastD [] ∈ S.tn by rw [List.getLastD_eq_getLast?, List.getLast?_eq_some_getLast hne]; exact List.getLast_mem hne)
           omega
         repeat walk_at "m"
         refine BinWP.mul_str p1 ?_
         repeat walk_at "m"
         refine CallWP.str_int (log_small (by simp; omega)) ?_
         refine BinWP.add_str ?_ p2
         repeat walk_at "m"
         refine BinWP.add_str ?_ p3
         repeat walk_at "m"
         refine BinWP.add_str ?_ p4
         repeat walk_at "m"
         have e2 : (List.map intV st'.reverse ++ [V.int m]).length = S.st.length := by simp [hst]
         rw [e1, e2]
         exact h (.begin S.ev.length ((c.fdiv 9).fmod 1000) w) _ ⟨rfl, w1, w2⟩ (own_begin1 (O.grow g) hst ty0 T'))

theorem c_row_o (hK : C.K = hd.heap_39 C.w.params) {d aA aE aB aI aT aD : Addr} {S : LS} {c : Int} {Q : V → Store → Prop} (hr : A.depth + 1 < recursionLimit) (hh : A.handled = none) (O : OwnAt σ d aA aE aB aI aT aD S) (sm : S.Small 63)
    (hbeg : ¬ (c.fmod 9 < 3 ∨ (¬ c.fmod 9 < 3 ∧ S.st = [])))
    (h : ∀ r σ', S.can r → OwnAt σ' d aA aE aB aI aT aD (stepS S r) → Q r.v σ') : CallWP C A (.ref 59) [.ref d, .int c] σ Q X := by
  have hr0 : A.depth < recursionLimit := by omega
  have nd := O.nd
  simp only [List.nodup_cons, List.mem_cons, List.not_mem_nil, or_false, not_or, not_false_eq_true, List.nodup_nil, and_true] at nd
  obtain ⟨⟨nd1, nd2, nd3, nd4, nd5, nd6⟩, ⟨nd7, nd8, nd9, nd10, nd11⟩, ⟨nd12, nd13, nd14, nd15⟩, ⟨nd16, nd17, nd18⟩, ⟨nd19, nd20⟩, nd21⟩ := nd
  obtain ⟨od, -, oa, oe, ob, oi, oT, or⟩ := id O
  have s1 := sm.st; have s2 := sm.ev; have s3 := sm.bg; have s4 := sm.ins; have s5 := sm.tn; have s6 := sm.dr
  walk_at "mdef2"
  intro L A' a1 a2 a3
  have hh' : A'.handled = none := a1.trans hh
  have hr' : A'.depth < recursionLimit := by rw [a2]; exact hr
  have hk3 : ¬ c.fmod 9 < 3 := fun e => hbeg (.inl e)
  have hne : S.st ≠ [] := fun e => hbeg (.inr ⟨hk3, e⟩)
  cases hst : S.st with
  | nil => exact absurd hst hne
  | cons m st' =>
    have s1' := s1
    rw [hst, List.length_cons] at s1'
    rw [hst, show (m :: st').reverse.map intV = st'.reverse.map intV ++ [V.int m] by simp [intV]] at oa
    repeat walk_at "m"
    refine Br.f (decide_eq_false hk3) ?_
    repeat walk_at "m"
    refine Br.f (by simp) ?_
    repeat walk_at "m"
    by_cases hk5 : c.fmod 9 < 5
    · refine Br.t (decide_eq_true hk5) ?_
      repeat walk_at "m"
      exact h (.fin m) _ (by show S.st.head? = some m; rw [hst]; rfl) (own_fin O hst)
    refine Br.f (decide_eq_false hk5) ?_
    repeat walk_at "m"
    by_cases hk7 : c.fmod 9 < 7
    · refine Br.t (decide_eq_true hk7) ?_
      repeat walk_at "m"
      refine c_word hK hr' hh' fun w σ2 w1 w2 g => ?_
      obtain ⟨pd, -, pa, pe, pb, pi, pT, pr⟩ := id (O.grow g)
      rw [hst, show (m :: st').reverse.map intV = st'.reverse.map intV ++ [V.int m] by simp [intV]] at pa
      have e2 : (List.map intV st'.reverse ++ [V.int m]).length = S.st.length := by simp [hst]
      obtain ⟨p1, p2, p3⟩ := line_ok2 (k := (List.map intV st'.reverse ++ [V.int m]).length) (w := w) (by rw [e2]; omega) w1
      repeat walk_at "m"
      refine BinWP.mul_str p1 ?_
      repeat walk_at "m"
      refine BinWP.add_str ?_ p2
      repeat walk_at "m"
      refine BinWP.add_str ?_ p3
      repeat walk_at "m"
      rw [e2]
      exact h (.call m w) _ ⟨w1, w2⟩ (own_call (O.grow g))
    refine Br.f (decide_eq_false hk7) ?_
    repeat walk_at "m"
    intro x hx
    repeat walk_at "m"
    intro y hy
    refine BinWP.cat (.inl (Store.at_fresh hy Store.hit)) (.inl Store.hit) (by simp [sizeLine_eq]) fun z hz => ?_
    repeat walk_at "m"
    have k0 := Int.fmod_nonneg_of_pos (c.fdiv 9) (show (0 : Int) < 6 by decide)
    have k1 := Int.fmod_lt_of_pos (c.fdiv 9) (show (0 : Int) < 6 by decide)
    generalize (c.fdiv 9).fmod 6 = k at *
    have gr := ((Grow.rfl'.fresh hx).fresh hy).fresh (o := Mine.O.list ([V.tup [V.str "hush", V.int m], V.tup [V.str "make", V.int m, V.int ((c.fdiv 9).fmod 50)], V.tup [V.str "cancel", V.int m, V.tup [V.int 0, V.int 3]]] ++ [V.tup [V.str "send", V.int ((c.fdiv 9).fmod 50)], V.tup [V.str "join", V.int m, V.str "begin"], V.tup [V.str "leave", V.int m, V.str "end"]])) hz
    have hk : k = 0 ∨ k = 1 ∨ k = 2 ∨ k = 3 ∨ k = 4 ∨ k = 5 := by omega
    rcases hk with rfl | rfl | rfl | rfl | rfl | rfl
    · exact ItemWP.list (.inl Store.hit) (by decide) (by decide) rfl (h (.other "hush" m .none) _ (by refine ⟨?_, ?_, ?_⟩ <;> decide +kernel) (O.grow gr))
    · exact ItemWP.list (.inl Store.hit) (by decide) (by decide) rfl (h (.other "make" m (.int _)) _ (by refine ⟨?_, ?_, ?_⟩ <;> decide +kernel) (O.grow gr))
    · exact ItemWP.list (.inl Store.hit) (by decide) (by decide) rfl (h (.other "cancel" m .pair) _ (by refine ⟨?_, ?_, ?_⟩ <;> decide +kernel) (O.grow gr))
    · exact ItemWP.list (.inl Store.hit) (by decide) (by decide) rfl (h (.other "send" _ .none) _ (by refine ⟨?_, ?_, ?_⟩ <;> decide +kernel) (O.grow gr))
    · exact ItemWP.list (.inl Store.hit) (by decide) (by decide) rfl (h (.other "join" m (.str "begin")) _ (by refine ⟨?_, ?_, ?_⟩ <;> decide +kernel) (O.grow gr))
    · exact ItemWP.list (.inl Store.hit) (by decide) (by decide) rfl (h (.other "leave" m (.str "end")) _ (by refine ⟨?_, ?_, ?_⟩ <;> decide +kernel) (O.grow gr))

theorem c_row (hK : C.K = hd.heap_39 C.w.params) {d aA aE aB aI aT aD : Addr} {S : LS} {c : Int} {Q : V → Store → Prop} (hr : A.depth + 1 < recursionLimit) (hh : A.handled = none) (O : OwnAt σ d aA aE aB aI aT aD S) (sm : S.Small 63)
    (h : ∀ r σ', S.can r → OwnAt σ' d aA aE aB aI aT aD (stepS S r) → Q r.v σ') : CallWP C A (.ref 59) [.ref d, .int c] σ Q X := by
  by_cases hbeg : c.fmod 9 < 3 ∨ (¬ c.fmod 9 < 3 ∧ S.st = [])
  · exact c_row_b hK hr hh O sm hbeg h
  · exact c_row_o hK hr hh O sm hbeg h

/- the rows and what was told of them -/
def stk : List Row → List Nat → List Nat
  | [], st => st
  | .begin n _ _ :: r, st => stk r (n :: st)
  | .fin _ :: r, st => stk r st.tail
  | .call _ _ :: r, st => stk r st
  | .other _ _ _ :: r, st => stk r st
theorem insideF_app : ∀ (a b : List Row) (st : List Nat), insideF (a ++ b) st = insideF a st ++ insideF b (stk a st)
  | [], b, st => rfl
  | .begin n _ _ :: r, b, st => by simp [insideF, stk, insideF_app r b]
  | .fin _ :: r, b, st => by simp [insideF, stk, insideF_app r b]
  | .call _ _ :: r, b, st => by simp [insideF, stk, insideF_app r b]
  | .other _ _ _ :: r, b, st => by simp [insideF, stk, insideF_app r b]
theorem begunF_app : ∀ (a b : List Row), begunF (a ++ b) = begunF a ++ begunF b
  | [], b => rfl
  | .begin n _ _ :: r, b => by simp [begunF, begunF_app r b]
  | .fin _ :: r, b => by simp [begunF, begunF_app r b]
  | .call _ _ :: r, b => by simp [begunF, begunF_app r b]
  | .other _ _ _ :: r, b => by simp [begunF, begunF_app r b]
theorem drawnF_app : ∀ (a b : List Row) (st : List Nat), drawnF (a ++ b) st.length = drawnF a st.length ++ drawnF b (stk a st).length
  | [], b, st => rfl
  | .begin n _ _ :: r, b, st => by have := drawnF_app r b (n :: st); simp only [List.length_cons] at this; simp [drawnF, stk, this]
  | .fin _ :: r, b, st => by have := drawnF_app r b st.tail; simp only [List.length_tail] at this; simp [drawnF, stk, this]
  | .call _ _ :: r, b, st => by simp [drawnF, stk, drawnF_app r b st]
  | .other _ _ _ :: r, b, st => by simp [drawnF, stk, drawnF_app r b st]
theorem wf_app : ∀ (a b : List Row) (st : List Nat), wf a st.length → wf b (stk a st).length → wf (a ++ b) st.length
  | [], b, st, _, h => h
  | .begin n _ _ :: r, b, st, h1, h2 => wf_app r b (n :: st) h1 h2
  | .fin _ :: r, b, st, h1, h2 => ⟨h1.1, by have := wf_app r b st.tail (by simpa using h1.2) h2; simpa using this⟩
  | .call _ _ :: r, b, st, h1, h2 => wf_app r b st h1 h2
  | .other _ _ _ :: r, b, st, h1, h2 => wf_app r b st h1 h2
theorem stk_app : ∀ (a b : List Row) (st : List Nat), stk (a ++ b) st = stk b (stk a st)
  | [], b, st => rfl
  | .begin n _ _ :: r, b, st => by simp [stk, stk_app r b]
  | .fin _ :: r, b, st => by simp [stk, stk_app r b]
  | .call _ _ :: r, b, st => by simp [stk, stk_app r b]
  | .other _ _ _ :: r, b, st => by simp [stk, stk_app r b]
structure Told (rows : List Row) (S : LS) : Prop where
  st : S.st = stk rows []
  bg : S.bg = begunF rows
  ins : S.ins = insideF rows []
  tn : S.tn = (insideF rows []).foldl tStep []
  dr : S.dr = drawnF rows 0
  wf : wf rows 0
  ok : ∀ r ∈ rows, r.ok
  ev : ∀ n t w, Row.begin n t w ∈ rows → S.ev[n]? = some w
  evs : ∀ w ∈ S.ev, PyData.strOk w = true
  sm : S.Small rows.length
theorem tStep_ne (acc : List (List Nat)) (p : Nat × Option Nat) : tStep acc p ≠ [] := by unfold tStep; split <;> simp
theorem tStep_len (acc : List (List Nat)) (p : Nat × Option Nat) : (tStep acc p).length ≤ acc.length + 1 := by unfold tStep; split <;> simp
theorem tStep_in {acc : List (List Nat)} {p : Nat × Option Nat} {m : Nat} (h : ∀ x ∈ acc, x.length ≤ m) : ∀ x ∈ tStep acc p, x.length ≤ m + 1 := by
  intro x hx
  unfold tStep at hx
  split at hx
  · rcases List.mem_append.mp hx with q | q
    · exact Nat.le_succ_of_le (h x q)
    · simp only [List.mem_singleton] at q; subst q; simp
  · rcases List.mem_append.mp hx with q | q
    · exact Nat.le_succ_of_le (h x (List.dropLast_subset _ q))
    · simp only [List.mem_singleton] at q; subst q
      simp only [List.length_append, List.length_singleton]
      by_cases e : acc = []
      · subst e; simp
      · have := h _ (show acc.getLastD [] ∈ acc by rw [List.getLastD_eq_getLast?, List.getLast?_eq_some_getLast e]; exact List.getLast_mem e)
        omega
theorem Told.step {rows : List Row} {S : LS} {r : Row} (T : Told rows S) (hz : rows.length < 63) (c : S.can r) : Told (rows ++ [r]) (stepS S r) := by
  obtain ⟨t1, t2, t3, t4, t5, t6, t7, t8, t9, ⟨m1, m2, m3, m4, m5, m6, m7, m8⟩⟩ := T
  have a1 := insideF_app rows [r] []
  have a2 := begunF_app rows [r]
  have a3 := drawnF_app rows [r] []
  have a4 := stk_app rows [r] []
  have a5 := wf_app rows [r] [] t6
  simp only [List.length_nil] at a3 a5
  rw [← t1] at a1 a3 a4 a5
  cases r with
  | begin n t w =>
    obtain ⟨c1, c2, c3⟩ := c
    refine ⟨?_, ?_, ?_, ?_, ?_, a5 trivial, ?_, ?_, ?_, ⟨?_, ?_, ?_, ?_, ?_, ?_, ?_, ?_⟩⟩
    · rw [a4]; rfl
    · rw [a2, ← t2]; rfl
    · rw [a1, ← t3]; rfl
    · rw [a1, List.foldl_append, ← t4]; rfl
    · rw [a3, ← t5]; rfl
    · intro r hr
      rcases List.mem_append.mp hr with q | q
      · exact t7 r q
      · simp only [List.mem_singleton] at q; subst q; exact ⟨by omega, c2, c3⟩
    · intro n' t' w' hr
      rcases List.mem_append.mp hr with q | q
      · have := t8 n' t' w' q
        show (S.ev ++ [w])[n']? = some w'
        rw [List.getElem?_append_left (List.getElem?_eq_some_iff.mp this).1]; exact this
      · simp only [List.mem_singleton, Row.begin.injEq] at q
        obtain ⟨rfl, rfl, rfl⟩ := q
        show (S.ev ++ [w'])[n']? = some w'
        rw [c1]; simp
    · intro x hx
      rcases List.mem_append.mp hx with q | q
      · exact t9 x q
      · simp only [List.mem_singleton] at q; subst q; exact c3
    · simp [stepS]; omega
    · simp [stepS]; omega
    · simp [stepS]; omega
    · simp [stepS]; omega
    · have := tStep_len S.tn (n, S.st.head?); simp [stepS]; omega
    · simp only [stepS, List.length_append, List.length_singleton]; exact tStep_in m6
    · simp [stepS]; omega
    · exact fun _ => tStep_ne _ _
  | fin n =>
    have hp : S.st ≠ [] := fun e => by simp [LS.can, e] at c
    have hp' : 0 < S.st.length := List.length_pos_iff.mpr hp
    refine ⟨?_, ?_, ?_, ?_, ?_, a5 ⟨hp', trivial⟩, ?_, ?_, t9, ⟨?_, ?_, ?_, ?_, ?_, ?_, ?_, ?_⟩⟩
    · rw [a4]; rfl
    · rw [a2]; simp [begunF, stepS, t2]
    · rw [a1]; simp [insideF, stepS, t3]
    · rw [a1]; simp [insideF, stepS, t4]
    · rw [a3]; simp [drawnF, stepS, t5]
    · intro r hr
      rcases List.mem_append.mp hr with q | q
      · exact t7 r q
      · simp only [List.mem_singleton] at q; subst q; trivial
    · intro n' t' w' hr
      rcases List.mem_append.mp hr with q | q
      · exact t8 n' t' w' q
      · simp at q
    · simp [stepS]; omega
    · simp [stepS]; omega
    · simp [stepS]; omega
    · simp [stepS]; omega
    · simp [stepS]; omega
    · intro x hx; have := m6 x hx; simp; omega
    · simp [stepS]; omega
    · exact fun _ => m8 hp
  | call n x =>
    obtain ⟨c2, c3⟩ := c
    refine ⟨?_, ?_, ?_, ?_, ?_, a5 trivial, ?_, ?_, t9, ⟨?_, ?_, ?_, ?_, ?_, ?_, ?_, ?_⟩⟩
    · rw [a4]; rfl
    · rw [a2]; simp [begunF, stepS, t2]
    · rw [a1]; simp [insideF, stepS, t3]
    · rw [a1]; simp [insideF, stepS, t4]
    · rw [a3, ← t5]; rfl
    · intro r hr
      rcases List.mem_append.mp hr with q | q
      · exact t7 r q
      · simp only [List.mem_singleton] at q; subst q; exact ⟨c2, c3⟩
    · intro n' t' w' hr
      rcases List.mem_append.mp hr with q | q
      · exact t8 n' t' w' q
      · simp at q
    · simp [stepS]; omega
    · simp [stepS]; omega
    · simp [stepS]; omega
    · simp [stepS]; omega
    · simp [stepS]; omega
    · intro x hx; have := m6 x hx; simp; omega
    · simp [stepS]; omega
    · exact m8
  | other k n e =>
    refine ⟨?_, ?_, ?_, ?_, ?_, a5 trivial, ?_, ?_, t9, ⟨?_, ?_, ?_, ?_, ?_, ?_, ?_, ?_⟩⟩
    · rw [a4]; rfl
    · rw [a2]; simp [begunF, stepS, t2]
    · rw [a1]; simp [insideF, stepS, t3]
    · rw [a1]; simp [insideF, stepS, t4]
    · rw [a3]; simp [drawnF, stepS, t5]
    · intro r hr
      rcases List.mem_append.mp hr with q | q
      · exact t7 r q
      · simp only [List.mem_singleton] at q; subst q; exact c
    · intro n' t' w' hr
      rcases List.mem_append.mp hr with q | q
      · exact t8 n' t' w' q
      · simp at q
    · simp [stepS]; omega
    · simp [stepS]; omega
    · simp [stepS]; omega
    · simp [stepS]; omega
    · simp [stepS]; omega
    · intro x hx; have := m6 x hx; simp; omega
    · simp [stepS]; omega
    · exact m8
/- as plain data -/
def Ext.ds : Ext → List PyData
  | .none => []
  | .int i => [.int i]
  | .pair => [.tuple [.int 0, .int 3]]
  | .str s => [.str (Str.ofString s)]
def Row.d : Row → PyData
  | .begin n t _ => .tuple [.str "begin", .int n, .int t]
  | .fin n => .tuple [.str "end", .int n]
  | .call n x => .tuple [.str "call", .int n, .str x]
  | .other k n r => .tuple (.str (Str.ofString k) :: .int n :: r.ds)
theorem Row.dr (r : Row) : DR C σ r.v r.d := by
  cases r with
  | begin n t w => exact .tup (.cons (.str _) (.cons (.int _) (.cons (.int _) .nil)))
  | fin n => exact .tup (.cons (.str _) (.cons (.int _) .nil))
  | call n x => exact .tup (.cons (.str _) (.cons (.int _) (.cons (.str _) .nil)))
  | other k n e =>
    refine .tup (.cons (.str _) (.cons (.int _) ?_))
    cases e with
    | none => exact .nil
    | int i => exact .cons (.int _) .nil
    | pair => exact .cons (.tup (.cons (.int _) (.cons (.int _) .nil))) .nil
    | str s => exact .cons (.str _) .nil
theorem Row.lay (r : Row) (h : r.ok) : r.d.canLay0 = true ∧ r.d.depth ≤ 2 := by
  cases r with
  | begin n t w => simp [Row.d, PyData.canLay0, PyData.canLayAll0, strOk_ofString, PyData.depth, PyData.depthAll]
  | fin n => simp [Row.d, PyData.canLay0, PyData.canLayAll0, strOk_ofString, PyData.depth, PyData.depthAll]
  | call n x => simp [Row.d, PyData.canLay0, PyData.canLayAll0, strOk_ofString, PyData.depth, PyData.depthAll, h.2]
  | other k n e => cases e <;> simp [Row.d, Ext.ds, PyData.canLay0, PyData.canLayAll0, strOk_ofString, PyData.depth, PyData.depthAll]
def outD : Option Nat → PyData
  | none => .none
  | some n => .int n
def pairD (p : Nat × Option Nat) : PyData := .tuple [.int p.1, outD p.2]
theorem pair_dr (p : Nat × Option Nat) : DR C σ (pairV p) (pairD p) ∧ (pairD p).canLay0 = true ∧ (pairD p).depth ≤ 1 := by
  obtain ⟨n, o⟩ := p
  cases o with
  | none => exact ⟨.tup (.cons (.int _) (.cons .none .nil)), by simp [pairD, outD, PyData.canLay0, PyData.canLayAll0], by simp [pairD, outD, PyData.depth, PyData.depthAll]⟩
  | some m => exact ⟨.tup (.cons (.int _) (.cons (.int _) .nil)), by simp [pairD, outD, PyData.canLay0, PyData.canLayAll0], by simp [pairD, outD, PyData.depth, PyData.depthAll]⟩
def evD (w : Str) : PyData := .tuple [.str w, .none, .str "wait", .int 0]
theorem ev_dr (w : Str) : DR C σ (evV w) (evD w) := .tup (.cons (.str _) (.cons .none (.cons (.str _) (.cons (.int _) .nil))))
theorem ev_lay (w : Str) (h : PyData.strOk w = true) : (evD w).canLay0 = true ∧ (evD w).depth ≤ 1 := by
  simp [evD, PyData.canLay0, PyData.canLayAll0, strOk_ofString, PyData.depth, PyData.depthAll, h]
def intD (n : Nat) : PyData := .int n
def intsD (xs : List Nat) : PyData := .list (xs.map intD)
theorem ints_lay (xs : List Nat) : (intsD xs).canLay0 = true ∧ (intsD xs).depth ≤ 1 := by
  refine ⟨?_, ?_⟩
  · simp only [intsD, PyData.canLay0]; exact canLayAll_map fun _ _ => rfl
  · simp only [intsD, PyData.depth]; have := depthAll_map (g := intD) (k := 0) (xs := xs) fun _ _ => Nat.le_refl _; omega
theorem TurnsAt.dr {σ0 : Store} {t : Addr} {acc : List (List Nat)} (T : TurnsAt σ0 σ t acc) : DR C σ (.ref t) (.list (acc.map intsD)) := by
  obtain ⟨ads, ht, nd, nt, n0, el, ev⟩ := T
  refine .list (.inl ht) ?_
  clear ht nd nt n0
  induction ads generalizing acc with
  | nil =>
    cases acc with
    | nil => exact .nil
    | cons _ _ => simp at el
  | cons a ads ih =>
    cases acc with
    | nil => simp at el
    | cons x acc =>
      refine .cons (.list (xs := x.map intV) (.inl (by simpa using ev 0 a rfl)) (DRs.map (f := intV) (g := intD) fun _ _ => .int _)) (ih (by simpa using el) fun i b hi => ?_)
      have := ev (i + 1) b (by simpa using hi)
      simpa using this
theorem line1_ok {k n : Nat} {w : Str} (h : PyData.strOk w = true) : PyData.strOk (line1 k n w) = true :=
  strOk_append (strOk_append (strOk_append (strOk_mul (strOk_ofString _)) (strOk_ofString _)) (strOk_ofString _)) h
theorem line2_ok {k : Nat} {w : Str} (h : PyData.strOk w = true) : PyData.strOk (line2 k w) = true :=
  strOk_append (strOk_append (strOk_mul (strOk_ofString _)) (strOk_ofString _)) h
theorem drawn_ok : ∀ (rows : List Row) (k : Nat), (∀ r ∈ rows, r.ok) → ∀ x ∈ drawnF rows k, PyData.strOk x = true
  | [], _, _, x, hx => by simp [drawnF] at hx
  | .begin n t w :: r, k, h, x, hx => by
    simp only [drawnF, List.mem_cons] at hx
    rcases hx with rfl | q
    · exact line1_ok (h _ (.head _)).2.2
    · exact drawn_ok r (k + 1) (fun r hr => h r (.tail _ hr)) x q
  | .fin _ :: r, k, h, x, hx => drawn_ok r (k - 1) (fun r hr => h r (.tail _ hr)) x hx
  | .call _ w :: r, k, h, x, hx => by
    simp only [drawnF, List.mem_cons] at hx
    rcases hx with rfl | q
    · exact line2_ok (h _ (.head _)).2
    · exact drawn_ok r k (fun r hr => h r (.tail _ hr)) x q
  | .other _ _ _ :: r, k, h, x, hx => drawn_ok r k (fun r hr => h r (.tail _ hr)) x hx

theorem TurnsAt.grow {σ0 σ σ' : Store} {t : Addr} {acc : List (List Nat)} (T : TurnsAt σ0 σ t acc) (g : Grow σ σ') : TurnsAt σ0 σ' t acc := by
  obtain ⟨ads, ht, _⟩ := id T
  exact T.frame (by rw [ht, g _ _ ht]) fun b o _ e => g b o e
theorem LS.Small.mono {S : LS} {m n : Nat} (h : S.Small m) (k : m ≤ n) : S.Small n :=
  ⟨Nat.le_trans h.st k, Nat.le_trans h.ev k, Nat.le_trans h.bg k, Nat.le_trans h.ins k, Nat.le_trans h.tn k, fun x hx => Nat.le_trans (h.tns x hx) k, Nat.le_trans h.dr k, h.go⟩
theorem own0 {σ : Store} {d aA aE aB aI aT aD : Addr} {o : O} (h1 : (σ.upd d o) aA = none) (h2 : ((σ.upd d o).upd aA (.list [])) aE = none) (h3 : (((σ.upd d o).upd aA (.list [])).upd aE (.list [])) aB = none)
    (h4 : ((((σ.upd d o).upd aA (.list [])).upd aE (.list [])).upd aB (.list [])) aI = none) (h5 : (((((σ.upd d o).upd aA (.list [])).upd aE (.list [])).upd aB (.list [])).upd aI (.list [])) aT = none)
    (h6 : ((((((σ.upd d o).upd aA (.list [])).upd aE (.list [])).upd aB (.list [])).upd aI (.list [])).upd aT (.list [])) aD = none) :
    OwnAt ((((((((σ.upd d o).upd aA (.list [])).upd aE (.list [])).upd aB (.list [])).upd aI (.list [])).upd aT (.list [])).upd aD (.list [])).upd d (ownD aA aE aB aI aT aD)) d aA aE aB aI aT aD ⟨[], [], [], [], [], []⟩ := by
  obtain ⟨n1, -⟩ := Store.none_ne h1
  obtain ⟨n2, h2⟩ := Store.none_ne h2
  obtain ⟨n3, -⟩ := Store.none_ne h2
  obtain ⟨n4, h3⟩ := Store.none_ne h3
  obtain ⟨n5, h3⟩ := Store.none_ne h3
  obtain ⟨n6, -⟩ := Store.none_ne h3
  obtain ⟨n7, h4⟩ := Store.none_ne h4
  obtain ⟨n8, h4⟩ := Store.none_ne h4
  obtain ⟨n9, h4⟩ := Store.none_ne h4
  obtain ⟨n10, -⟩ := Store.none_ne h4
  obtain ⟨m1, h5⟩ := Store.none_ne h5
  obtain ⟨m2, h5⟩ := Store.none_ne h5
  obtain ⟨m3, h5⟩ := Store.none_ne h5
  obtain ⟨m4, h5⟩ := Store.none_ne h5
  obtain ⟨m5, -⟩ := Store.none_ne h5
  obtain ⟨k1, h6⟩ := Store.none_ne h6
  obtain ⟨k2, h6⟩ := Store.none_ne h6
  obtain ⟨k3, h6⟩ := Store.none_ne h6
  obtain ⟨k4, h6⟩ := Store.none_ne h6
  obtain ⟨k5, h6⟩ := Store.none_ne h6
  obtain ⟨k6, -⟩ := Store.none_ne h6
  refine ⟨Store.hit, ?_, ?_, ?_, ?_, ?_, ⟨[], ?_, by simp, by simp, by simp, rfl, by simp⟩, ?_⟩
  · simp [Ne.symm n1, Ne.symm n2, Ne.symm n3, Ne.symm n4, Ne.symm n5, Ne.symm n6, Ne.symm n7, Ne.symm n8, Ne.symm n9, Ne.symm n10, Ne.symm m1, Ne.symm m2, Ne.symm m3, Ne.symm m4, Ne.symm m5, Ne.symm k1, Ne.symm k2, Ne.symm k3, Ne.symm k4, Ne.symm k5, Ne.symm k6]
  all_goals simp only [List.reverse_nil, List.map_nil]
  all_goals walk_at "mst"
theorem ownD_fold {aA aE aB aI aT aD : Addr} : O.sd (List.foldl (fun e (p : Str × V) => sput e p.1 p.2) [] [(Str.ofString "around", V.ref aA), (Str.ofString "events", V.ref aE), (Str.ofString "begun", V.ref aB), (Str.ofString "inside", V.ref aI), (Str.ofString "turns", V.ref aT), (Str.ofString "drawn", V.ref aD)]) = ownD aA aE aB aI aT aD := by
  kernel_rfl
theorem c_law (hK : C.K = hd.heap_39 C.w.params) {l : Addr} {ns : List Int} (hl : BaseL C l (ns.map V.int)) (hn : ns.length ≤ 63) : CallWP C callerA (.ref 64) [.ref l] (fun _ => none) (fun v _ => v = .bool true) (fun _ _ => False) := by
  have hr0 : callerA.depth < recursionLimit := by decide
  walk_at "mdef1"
  intro L A' a1 a2 a3
  have hh' : A'.handled = none := a1
  have hr' : A'.depth + 1 < recursionLimit := by rw [a2]; decide
  have hr1 : A'.depth < recursionLimit := by omega
  have hu : A'.units = 7 := a3
  repeat walk_at "m"
  intro d hd
  repeat walk_at "m"
  intro aA hA
  repeat walk_at "m"
  intro aE hE
  repeat walk_at "m"
  intro aB hB
  repeat walk_at "m"
  intro aI hI
  repeat walk_at "m"
  intro aT hT
  repeat walk_at "m"
  intro aD hD
  repeat walk_at "m"
  have OI := own0 hA hE hB hI hT hD
  refine ⟨?_, ?_⟩
  · obtain ⟨n1, -⟩ := Store.none_ne hA
    obtain ⟨-, h2⟩ := Store.none_ne hE
    obtain ⟨n2, -⟩ := Store.none_ne h2
    obtain ⟨-, h3⟩ := Store.none_ne hB
    obtain ⟨-, h3⟩ := Store.none_ne h3
    obtain ⟨n3, -⟩ := Store.none_ne h3
    obtain ⟨-, h4⟩ := Store.none_ne hI
    obtain ⟨-, h4⟩ := Store.none_ne h4
    obtain ⟨-, h4⟩ := Store.none_ne h4
    obtain ⟨n4, -⟩ := Store.none_ne h4
    obtain ⟨-, h5⟩ := Store.none_ne hT
    obtain ⟨-, h5⟩ := Store.none_ne h5
    obtain ⟨-, h5⟩ := Store.none_ne h5
    obtain ⟨-, h5⟩ := Store.none_ne h5
    obtain ⟨n5, -⟩ := Store.none_ne h5
    obtain ⟨-, h6⟩ := Store.none_ne hD
    obtain ⟨-, h6⟩ := Store.none_ne h6
    obtain ⟨-, h6⟩ := Store.none_ne h6
    obtain ⟨-, h6⟩ := Store.none_ne h6
    obtain ⟨-, h6⟩ := Store.none_ne h6
    obtain ⟨n6, -⟩ := Store.none_ne h6
    walk_at "mst"
  rw [ownD_fold]
  generalize ((((((((Store.upd (fun _ => none) d (O.sd [])).upd aA (O.list [])).upd aE (O.list [])).upd aB (O.list [])).upd aI (O.list [])).upd aT (O.list [])).upd aD (O.list [])).upd d (ownD aA aE aB aI aT aD)) = σ0 at OI ⊢
  clear hd hA hE hB hI hT hD
  repeat walk_at "m"
  refine ⟨_, _, ItV.list hh' (.inr hl), fun L' => ?_⟩
  refine CmpL.inv V.int (fun cs out σ1 => ∃ rows S, out = List.map Row.v rows ∧ Told rows S ∧ OwnAt σ1 d aA aE aB aI aT aD S ∧ rows.length + cs.length ≤ 63) ?_ ?_ ns [] σ0 ⟨[], ⟨[], [], [], [], [], []⟩, rfl, ⟨rfl, rfl, rfl, rfl, rfl, trivial, by simp, by simp, by simp, ⟨by simp, by simp, by simp, by simp, by simp, by simp, by simp, by simp⟩⟩, OI, by simpa using hn⟩
  · rintro c cs out σ1 ⟨rows, S, rfl, T, O, z⟩
    simp only [List.length_cons] at z
    repeat walk_at "m"
    refine c_row hK hr' hh' O (T.sm.mono (by omega)) fun r σ2 cn O2 => ⟨by simp [sizeLine_eq]; omega, .inr hl, rows ++ [r], stepS S r, by simp, T.step (by omega) cn, O2, by simp; omega⟩
  rintro out σ1 ⟨rows, S, rfl, T, O, z⟩ log hlog
  have zr : rows.length ≤ 63 := by simp at z; omega
  have O1 := O.grow (Grow.rfl'.fresh (o := .list (rows.map Row.v)) hlog)
  have hlog1 : (σ1.upd log (.list (rows.map Row.v))) log = some (.list (rows.map Row.v)) := Store.hit
  generalize σ1.upd log (.list (rows.map Row.v)) = σ2 at *
  repeat walk_at "m"
  intro gv hgv
  have O2 := O1.grow (Grow.rfl'.fresh (o := .list (rows.map Row.v)) hgv)
  have hlog2 := Store.at_fresh (o := .list (rows.map Row.v)) hgv hlog1
  have hgv2 : (σ2.upd gv (.list (rows.map Row.v))) gv = some (.list (rows.map Row.v)) := Store.hit
  generalize σ2.upd gv (.list (rows.map Row.v)) = σ3 at *
  have oe := O2.e
  have od := O2.hd
  have ze := T.sm.ev
  repeat walk_at "m"
  intro ev hev
  have g4 := Grow.rfl'.fresh (o := .list (S.ev.map evV)) hev
  have hev4 : (σ3.upd ev (.list (S.ev.map evV))) ev = some (.list (S.ev.map evV)) := Store.hit
  generalize σ3.upd ev (.list (S.ev.map evV)) = σ4 at *
  have gv4 := g4 _ _ hgv2
  repeat walk_at "m"
  refine c_begun hK hr1 hh' gv4 (by omega) T.ok fun fi hfi => ?_
  have g5 := Grow.rfl'.fresh (o := .list ((begunF rows).map intV)) hfi
  have hfi5 : (σ4.upd fi (.list ((begunF rows).map intV))) fi = some (.list ((begunF rows).map intV)) := Store.hit
  generalize σ4.upd fi (.list ((begunF rows).map intV)) = σ5 at *
  repeat walk_at "m"
  refine c_inside hK hr1 hh' (g5 _ _ gv4) (by omega) T.ok T.wf fun se σ6 g6 hse hse6 => ?_
  repeat walk_at "m"
  refine c_turns hK hr' hh' (g6 _ _ (g5 _ _ gv4)) (by omega) T.ok T.wf fun th σ7 g7 hth T7 => ?_
  repeat walk_at "m"
  refine ⟨_, _, _, rfl, ?_⟩
  repeat walk_at "m"
  refine c_drawn hK hr1 hh' (g7 _ _ (g6 _ _ (g5 _ _ gv4))) (g7 _ _ (g6 _ _ (g5 _ _ hev4))) (by omega) T.ok T.wf T.ev fun dw σ8 g8 hdw hdw8 => ?_
  have G5 : Grow σ5 σ8 := (g6.trans g7).trans g8
  have G4 : Grow σ4 σ8 := g5.trans G5
  have G3 : Grow σ3 σ8 := g4.trans G4
  repeat walk_at "m"
  intro ff hff
  have G8 := Grow.rfl'.fresh (o := .list [V.ref fi, V.ref se, V.ref th, V.ref dw]) hff
  have hff9 : (σ8.upd ff (.list [V.ref fi, V.ref se, V.ref th, V.ref dw])) ff = some (.list [V.ref fi, V.ref se, V.ref th, V.ref dw]) := Store.hit
  generalize σ8.upd ff (.list [V.ref fi, V.ref se, V.ref th, V.ref dw]) = σ9 at *
  have q1 := G8 _ _ (G5 _ _ hfi5)
  have q2 := G8 _ _ (g8 _ _ (g7 _ _ hse6))
  have q3 := T7.grow (g8.trans G8)
  obtain ⟨ads, q3', -⟩ := id q3
  have q4 := G8 _ _ hdw8
  have q5 := G8 _ _ (G4 _ _ gv4)
  have q6 := G8 _ _ (G3 _ _ hlog2)
  have q7 := G8 _ _ (G4 _ _ hev4)
  have O9 := O2.grow (G3.trans G8)
  have od9 := O9.hd
  have w1 : ∀ a (xs : List Row), σ9 a = some (.list (xs.map Row.v)) → DR C σ9 (.ref a) (.list (xs.map Row.d)) := fun a xs h => .list (.inl h) (DRs.map fun r _ => r.dr)
  have w2 : (PyData.list (rows.map Row.d)).canLay0 = true := by simp only [PyData.canLay0]; exact canLayAll_map fun r hr => (r.lay (T.ok r hr)).1
  have w3 : (PyData.list (rows.map Row.d)).depth ≤ 3 := by simp only [PyData.depth]; have := depthAll_map (k := 2) (g := Row.d) (xs := rows) fun r hr => (r.lay (T.ok r hr)).2; omega
  refine ⟨_, _, ItV.list hh' (.inl hff9), ?_⟩
  repeat walk_at "m"
  refine ⟨.inl hff9, ?_⟩
  repeat walk_at "m"
  refine ⟨.inl hff9, ?_⟩
  repeat walk_at "m"
  refine ⟨.inl hff9, ?_⟩
  repeat walk_at "m"
  refine ⟨.inl hff9, ?_⟩
  repeat walk_at "m"
  refine CmpWP.neSame (w1 _ _ q5) (w1 _ _ q6) w2 (by rw [hu]; simp only [cLine]; omega) ?_
  repeat walk_at "m"
  have vE : ∀ a, σ9 a = some (.list (S.ev.map evV)) → DR C σ9 (.ref a) (.list (S.ev.map evD)) := fun a h => .list (.inl h) (DRs.map fun w _ => ev_dr w)
  refine CmpWP.neSame (vE _ q7) (vE _ O9.e) (by simp only [PyData.canLay0]; exact canLayAll_map fun w hw => (ev_lay w (T.evs w hw)).1) (by
    rw [hu]; simp only [PyData.depth, cLine]; have := depthAll_map (k := 1) (g := evD) (xs := S.ev) fun w hw => (ev_lay w (T.evs w hw)).2; omega) ?_
  repeat walk_at "m"
  have vI : ∀ a xs, σ9 a = some (.list (List.map intV xs)) → DR C σ9 (.ref a) (intsD xs) := fun a xs h => .list (.inl h) (DRs.map fun w _ => .int _)
  refine CmpWP.neSame (vI _ _ q1) (T.bg ▸ vI _ _ O9.b) (ints_lay _).1 (by rw [hu]; simp only [cLine]; have := (ints_lay (begunF rows)).2; omega) ?_
  repeat walk_at "m"
  have vP : ∀ a xs, σ9 a = some (.list (List.map pairV xs)) → DR C σ9 (.ref a) (.list (xs.map pairD)) := fun a xs h => .list (.inl h) (DRs.map fun p _ => (pair_dr p).1)
  refine CmpWP.neSame (vP _ _ q2) (T.ins ▸ vP _ _ O9.i) (by simp only [PyData.canLay0]; exact canLayAll_map fun p _ => (pair_dr (C := C) (σ := σ9) p).2.1) (by
    rw [hu]; simp only [PyData.depth, cLine]; have := depthAll_map (k := 1) (g := pairD) (xs := insideF rows []) fun p _ => (pair_dr (C := C) (σ := σ9) p).2.2; omega) ?_
  repeat walk_at "m"
  refine CmpWP.eqSame q3.dr (T.tn ▸ O9.t.dr) (by simp only [PyData.canLay0]; exact canLayAll_map fun p _ => (ints_lay p).1) (by
    rw [hu]; simp only [PyData.depth, cLine]; have := depthAll_map (k := 1) (g := intsD) (xs := (insideF rows []).foldl tStep []) fun p _ => (ints_lay p).2; omega) ?_
  repeat walk_at "m"
  have vS : ∀ a xs, σ9 a = some (.list (List.map V.str xs)) → DR C σ9 (.ref a) (.list (xs.map PyData.str)) := fun a xs h => .list (.inl h) (DRs.map fun p _ => .str _)
  refine CmpWP.eqSame (vS _ _ q4) (T.dr ▸ vS _ _ O9.r) (by simp only [PyData.canLay0]; exact canLayAll_map fun p hp => by simp only [PyData.canLay0]; exact drawn_ok rows 0 T.ok p hp) (by
    rw [hu]; simp only [PyData.depth, cLine]; have := depthAll_map (k := 0) (g := PyData.str) (xs := drawnF rows 0) (fun p _ => by simp [PyData.depth]); omega) ?_
  repeat walk_at "m"
  have zd := T.sm.dr
  rw [T.dr] at zd
  refine ⟨_, _, ItV.list hh' (.inl q4), fun L' => ?_⟩
  refine CmpL.pure (fun _ => true) (fun _ => .bool true) (.inl q4) _ _ ?_ ?_ (by simp [sizeLine_eq]; omega) ?_
  · intro y hy Q hQ
    repeat walk_at "m"
    exact hQ
  · intro y hy _ Q hQ
    obtain ⟨x, hx, rfl⟩ := List.mem_map.mp hy
    repeat walk_at "m"
    exact hQ
  · intro bl hbl
    repeat walk_at "m"
    have eb : [] ++ List.map (fun _ => V.bool true) (List.filter (fun _ => true) (List.map V.str (drawnF rows 0))) = ((drawnF rows 0).map fun _ => true).map V.bool := by
      rw [List.nil_append, List.filter_eq_self.mpr (fun _ _ => rfl)]; simp
    rw [eb]
    refine CallWP.all hh' (.inl Store.hit) ?_
    have : ((drawnF rows 0).map fun _ => true).all id = true := by simp
    rw [this]
    rfl

end Mine
theorem PySem.Challenge.cw_uf030038_13_holds : PySem.Challenge.rw_uf030038_13.Holds := by
  refine hd ?_
  intro w s₀ s₁ mg mb G Y fa o pm cd doc dV kV ho hd hcd hD hmg hg args vals as hpre hlay hrd hwl hlo
  have KX := kIn_of Y
  refine Ground.open G ?_
  intro T B D TE TW
  clear ho hd hcd hD
  wrow_args hpre hlay hrd hwl hlo
  rename IntsAre _ _ => hI
  rename s₁.heap.IsList _ _ => hL
  rename ¬ _ < _ => hn
  have hfa : fa = 64 := by
    have e := mg_of (n := Str.ofString "law") (v := .ref 64) KX T.g (by k_is)
    rw [hmg] at e
    cases e; rfl
  subst hfa
  refine wpAny_mono (Mine.glue KX T.g T.b T.builtins T.nolimit hg hL hI ?_) ?_ fun _ _ z => z.elim
  · intro C e1 e2 e3 e4 e5
    subst e2
    exact Mine.c_law e3 e5 (by omega)
  · rintro v s' ⟨rfl, k1, k2, k3⟩
    exact GoodW.toG ⟨.inl ⟨_, .bool true, [], rfl, fun _ => rfl, .bool true, postW_of (X := true == true) (by rfl) (w_eq_bool (w_res rfl) w_lit) rfl, fun _ => ⟨List.nodup_nil, fun a ha => by cases ha⟩⟩, k1, k2, k3⟩

