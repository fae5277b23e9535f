import PyProof.Rows.All
import Wide.All
import OpenK.AllK
import Wide.FinOn
import OpenK.KWalk
import PyProof.Cells
import PyProof.CompFree
import PyProof.CompUse
import PyProof.DictCalls
import PyProof.PlainList
import PyProof.Rules3
import PyProof.ListIndex
import PyProof.Rows.Frame
import PyProof.RangeFor
import PyProof.Rules2
import PyProof.PureInt
import PyProof.NoPylong
import PyProof.Rows.RuleB_floordiv
import PyProof.Rows.RuleB_mod
import PyProof.Rows.StrRules
import PyProof.Rows.Chain
import PyProof.Raises
import PyProof.RulesAssignMore
import PyProof.RulesMatch
import PyProof.TupleIter
import PyProof.LetGo
import PyProof.AssignAttr
import OpenK.KMore
import PyProof.CallRoads
import PyProof.CompMap
import PyProof.Walks
import PyProof.RangeIter
import PyProof.P3In
import PyProof.ListTruth
import PyProof.ListIndexNeg
import PyProof.SliceList
import PyProof.FactsAll.list_3
import PyProof.FactsAll.list_4
import PyProof.Rows.Tup
import PyProof.SeqWrite
import PyProof.ReprLoop
import PyProof.IsiPairs
import PyProof.IsiHeapPairs
import PyProof.IsiNone
import PyProof.ListCopy
import PyProof.TupleOfSeq
import PyProof.TupleCall
import PyProof.StrCalls2
import PyProof.ConsumeWalk
import PyProof.Rows.RuleN_abs
import PyProof.Rows.SeqMore
import PyProof.CallStr
import PyProof.StrBlock2
import PyProof.DictDisplay
import PyProof.DictTruth
import KE.KNestM
import OpenK.KLine
import PyProof.DictTable
import PyProof.MeetsSeq
import KE.LcSums
import PyProof.P3Eq
import PyProof.Rows.TupAssign
import KE.KSortTup
import OpenK.KMake
import PyProof.TupleKey
import PyProof.FactsAll.tuple_1
import PyProof.FactsAll.tuple_2
import PyProof.FactsAll.dict_3
import PyProof.MeetsDictList
import PyProof.MinMaxWalk
import PySem.Challenge.RW_uf030038_03
set_option autoImplicit false
namespace Mine
open PySem PySem.W

/-- abstract values -/
inductive V where
  | none | bool (b : Bool) | int (i : Int) | str (s : Str) | tup (vs : List V) | rng (a b : Int) | ref (a : Addr) | typ (n : String) | blt (i : String)
  deriving Inhabited

abbrev tupObj (items : Array Value) (n : Nat) : Obj := { cls := .type "tuple", data := .seq items n }

mutual
inductive VR (h : Heap) : Value → V → Prop where
  | none : VR h .none .none
  | bool (b : Bool) : VR h (.bool b) (.bool b)
  | int (i : Int) (t : Tok) : VR h (.int i t) (.int i)
  | str (s : Str) (t : Tok) : VR h (.str s t) (.str s)
  | typ (n : String) : VR h (.type n) (.typ n)
  | blt (i : String) : VR h (.builtin i) (.blt i)
  | ref (a : Addr) : VR h (.ref a) (.ref a)
  | tup {a : Addr} {items : Array Value} {n : Nat} {vs : List V} : h.get? a = some (tupObj items n) → VRs h items.toList vs → VR h (.ref a) (.tup vs)
  | rng {r : Addr} {a b : Int} {t u v : Tok} : IsRange h r a b 1 t u v → VR h (.ref r) (.rng a b)
inductive VRs (h : Heap) : List Value → List V → Prop where
  | nil : VRs h [] []
  | cons {v : Value} {vs : List Value} {x : V} {xs : List V} : VR h v x → VRs h vs xs → VRs h (v :: vs) (x :: xs)
end

/-- objects that nothing changes -/
def Imm (o : Obj) : Prop := (∃ items n, o = tupObj items n) ∨ (∃ vs, o = { cls := .type "range", data := .fields vs }) ∨ (o.cls = .type "code" ∧ ∃ vs, o.data = .fields vs)
theorem Imm.tup (items : Array Value) (n : Nat) : Imm (tupObj items n) := .inl ⟨_, _, rfl⟩
theorem Imm.not {o : Obj} (h1 : o.cls ≠ .type "tuple") (h2 : o.cls ≠ .type "range") (h3 : o.cls ≠ .type "code") : ¬ Imm o := by
  rintro (⟨_, _, rfl⟩ | ⟨_, rfl⟩ | ⟨e, _⟩)
  · exact h1 rfl
  · exact h2 rfl
  · exact h3 e
theorem Imm.notDict {o : Obj} {es : Array DictEntry} {n : Nat} (h : o.data = .dict es n) : ¬ Imm o := by
  rintro (⟨_, _, rfl⟩ | ⟨_, rfl⟩ | ⟨_, _, e⟩)
  · cases h
  · cases h
  · rw [h] at e; cases e
/-- every such object of h stands in h' -/
def TupKeep (h h' : Heap) : Prop := ∀ a o, Imm o → h.get? a = some o → h'.get? a = some o

theorem TupKeep.refl (h : Heap) : TupKeep h h := fun _ _ _ e => e
theorem TupKeep.trans {h1 h2 h3 : Heap} (x : TupKeep h1 h2) (y : TupKeep h2 h3) : TupKeep h1 h3 := fun a i n e => y a i n (x a i n e)

mutual
theorem VR.mono {h h' : Heap} (k : TupKeep h h') : ∀ {v : Value} {x : V}, VR h v x → VR h' v x
  | _, _, .none => .none
  | _, _, .bool b => .bool b
  | _, _, .int i t => .int i t
  | _, _, .str s t => .str s t
  | _, _, .typ n => .typ n
  | _, _, .blt i => .blt i
  | _, _, .ref a => .ref a
  | _, _, .tup e r => .tup (k _ _ (.tup _ _) e) (VRs.mono k r)
  | _, _, .rng e => .rng (k _ _ (.inr (.inl ⟨_, rfl⟩)) e)
theorem VRs.mono {h h' : Heap} (k : TupKeep h h') : ∀ {v : List Value} {x : List V}, VRs h v x → VRs h' v x
  | _, _, .nil => .nil
  | _, _, .cons a b => .cons (VR.mono k a) (VRs.mono k b)
end

theorem VRs.length {h : Heap} : ∀ {v : List Value} {x : List V}, VRs h v x → v.length = x.length
  | _, _, .nil => rfl
  | _, _, .cons _ b => congrArg (· + 1) (VRs.length b)

theorem VRs.append {h : Heap} : ∀ {v : List Value} {x : List V} {v' : List Value} {x' : List V}, VRs h v x → VRs h v' x' → VRs h (v ++ v') (x ++ x')
  | _, _, _, _, .nil, r => r
  | _, _, _, _, .cons a b, r => .cons a (VRs.append b r)

theorem VRs.get {h : Heap} : ∀ {v : List Value} {x : List V}, VRs h v x → ∀ {i : Nat} {y : V}, x[i]? = some y → ∃ u, v[i]? = some u ∧ VR h u y
  | _, _, .nil, _, _, e => by simp at e
  | _, _, .cons a b, 0, _, e => by simp at e; subst e; exact ⟨_, rfl, a⟩
  | _, _, .cons a b, i + 1, _, e => by
    obtain ⟨u, h1, h2⟩ := VRs.get b (i := i) (by simpa using e)
    exact ⟨u, by simpa using h1, h2⟩

theorem VRs.get' {h : Heap} : ∀ {v : List Value} {x : List V}, VRs h v x → ∀ {i : Nat} {u : Value}, v[i]? = some u → ∃ y, x[i]? = some y ∧ VR h u y
  | _, _, .nil, _, _, e => by simp at e
  | _, _, .cons a b, 0, _, e => by simp at e; subst e; exact ⟨_, rfl, a⟩
  | _, _, .cons a b, i + 1, _, e => by
    obtain ⟨u, h1, h2⟩ := VRs.get' b (i := i) (by simpa using e)
    exact ⟨u, by simpa using h1, h2⟩

/-- the run's surroundings -/
structure Cx where
  prog : Program
  w : World
  h₀ : Heap
  gens : Array GenState
  os : OsState
  n₀ : Nat
  low : ∀ b o, h₀.get? b = some o → b < n₀
  top : ∀ m, n₀ = m + 1 → ∃ o, h₀.get? m = some o
  K : Frag
  KX : K.In h₀
  mg : Str → Option Value
  mb : Str → Option Value
  hg : h₀.Ns mainGlobals mg
  hb : h₀.Ns builtinsNs mb
  blt : ∀ x : Str, x ≠ "__name__" → mb x = bootBuiltins x
  lim : h₀.NoLimit
  tabs : List Addr
abbrev Cx.M (C : Cx) : Model := model C.prog C.w

/-- abstract objects -/
inductive O where
  | list (vs : List V)
  | sd (es : List (Str × V))
  | id (es : List (Int × V))
  | inst (cls dx : Addr)
  | tab (pos : Pos) (q : Str)

abbrev Store := Addr → Option O
def Store.upd (σ : Store) (a : Addr) (o : O) : Store := fun b => if b = a then some o else σ b
theorem Store.upd_self (σ : Store) (a : Addr) (o : O) : σ.upd a o a = some o := by simp [Store.upd]
theorem Store.upd_ne (σ : Store) {a b : Addr} (o : O) (h : b ≠ a) : σ.upd a o b = σ b := by simp [Store.upd, h]

inductive PR {K : Type} (h : Heap) : List (K × Value) → List (K × V) → Prop
  | nil : PR h [] []
  | cons {k : K} {v : Value} {x : V} {r : List (K × Value)} {r' : List (K × V)} : VR h v x → PR h r r' → PR h ((k, v) :: r) ((k, x) :: r')

theorem PR.mono {K : Type} {h h' : Heap} (k : TupKeep h h') : ∀ {a : List (K × Value)} {b : List (K × V)}, PR h a b → PR h' a b
  | _, _, .nil => .nil
  | _, _, .cons x y => .cons (x.mono k) (PR.mono k y)

abbrev instO (C dx : Addr) : Obj := { cls := .ref C, dict := some dx }

def Rep (C : Cx) (h : Heap) (a : Addr) : O → Prop
  | .list vs => ∃ items, h.PlainList a items ∧ VRs h items.toList vs
  | .sd es => ∃ kvs, h.DictOf (strKind C.prog C.w) a kvs ∧ PR h kvs es
  | .id es => ∃ kvs, h.DictOf (intKind C.prog C.w) a kvs ∧ PR h kvs es
  | .inst c dx => h.get? a = some (instO c dx)
  | .tab pos q => h.get? a = some { cls := .none, data := .fields #[] } ∨ ∃ c' o vs t, h.get? a = some { cls := .none, data := .fields #[rawInt pos.line, rawInt pos.col, .ref c'] } ∧ h.get? c' = some o ∧ o.cls = .type "code" ∧ o.data = .fields vs ∧ vs[1]? = some (.str q t)

theorem Rep.isSome {C : Cx} {h : Heap} {a : Addr} {o : O} (r : Rep C h a o) : ∃ x, h.get? a = some x ∧ ¬ Imm x := by
  cases o with
  | list vs => obtain ⟨items, ⟨n, e⟩, _⟩ := r; exact ⟨_, e, Imm.not (by simp) (by simp) (by simp)⟩
  | sd es =>
    obtain ⟨kvs, d, _⟩ := r
    obtain ⟨o, es, ep, ho, hx, _⟩ := d
    exact ⟨o, ho, Imm.not (by rw [hx.1]; decide) (by rw [hx.1]; decide) (by rw [hx.1]; decide)⟩
  | id es =>
    obtain ⟨kvs, d, _⟩ := r
    obtain ⟨o, es, ep, ho, hx, _⟩ := d
    exact ⟨o, ho, Imm.not (by rw [hx.1]; decide) (by rw [hx.1]; decide) (by rw [hx.1]; decide)⟩
  | inst c dx => exact ⟨_, r, Imm.not (fun z => by cases z) (fun z => by cases z) (fun z => by cases z)⟩
  | tab pos q =>
    rcases r with e | ⟨c', o, vs, t, e, _⟩
    · exact ⟨_, e, Imm.not (fun z => by cases z) (fun z => by cases z) (fun z => by cases z)⟩
    · exact ⟨_, e, Imm.not (fun z => by cases z) (fun z => by cases z) (fun z => by cases z)⟩

/-- a represented object stands as it stood where it is kept itself and all tuples are -/
theorem Rep.at {C : Cx} {h h' : Heap} {a : Addr} {o : O} (r : Rep C h a o) (k : ∀ x, h.get? a = some x → h'.get? a = some x) (t : TupKeep h h') : Rep C h' a o := by
  cases o with
  | list vs => obtain ⟨items, p, q⟩ := r; exact ⟨items, p.at k, q.mono t⟩
  | sd es =>
    obtain ⟨kvs, d, q⟩ := r
    obtain ⟨o, es', ep, ho, rest⟩ := d
    exact ⟨kvs, ⟨o, es', ep, k _ ho, rest⟩, q.mono t⟩
  | id es =>
    obtain ⟨kvs, d, q⟩ := r
    obtain ⟨o, es', ep, ho, rest⟩ := d
    exact ⟨kvs, ⟨o, es', ep, k _ ho, rest⟩, q.mono t⟩
  | inst c dx => exact k _ r
  | tab pos q =>
    rcases r with e | ⟨c', o, vs, u, e, e2, h1, h2, h3⟩
    · exact .inl (k _ e)
    · exact .inr ⟨c', o, vs, u, k _ e, t _ _ (.inr (.inr ⟨h1, vs, h2⟩)) e2, h1, h2, h3⟩

structure St (C : Cx) (σ : Store) (s : Shared) : Prop where
  base : ∀ b o, C.h₀.get? b = some o → s.heap.get? b = some o
  rep : ∀ a o, σ a = some o → Rep C s.heap a o
  above : ∀ a o, σ a = some o → C.h₀.get? a = none ∧ (C.n₀ ≤ a ∨ a ∈ C.tabs)
  gens : s.gens = C.gens
  os : s.os = C.os

theorem St.size {C : Cx} {σ : Store} {s : Shared} (S : St C σ s) : C.n₀ ≤ s.heap.objs.size := by
  cases q : C.n₀ with
  | zero => exact Nat.zero_le _
  | succ m =>
    obtain ⟨o, e⟩ := C.top m q
    exact Heap.lt_size (S.base m o e)

structure Evo (σ : Store) (h : Heap) (σ' : Store) (h' : Heap) : Prop where
  keep : ∀ b o, h.get? b = some o → σ b = none → h'.get? b = some o
  dom : ∀ b o, σ' b = some o → (∃ o', σ b = some o') ∨ h.get? b = none
  mono : ∀ b o, σ b = some o → ∃ o', σ' b = some o'
  tup : TupKeep h h'

theorem Evo.refl (σ : Store) (h : Heap) : Evo σ h σ h := ⟨fun _ _ e _ => e, fun _ _ e => .inl ⟨_, e⟩, fun _ _ e => ⟨_, e⟩, .refl _⟩
theorem Evo.trans {σ1 σ2 σ3 : Store} {h1 h2 h3 : Heap} (x : Evo σ1 h1 σ2 h2) (y : Evo σ2 h2 σ3 h3) : Evo σ1 h1 σ3 h3 := by
  refine ⟨fun b o e n => ?_, fun b o e => ?_, fun b o e => ?_, x.tup.trans y.tup⟩
  · refine y.keep b o (x.keep b o e n) ?_
    cases q : σ2 b with
    | none => rfl
    | some o2 =>
      rcases x.dom b o2 q with ⟨o', e'⟩ | e'
      · rw [n] at e'; cases e'
      · rw [e] at e'; cases e'
  · rcases y.dom b o e with ⟨o', e'⟩ | e'
    · exact x.dom b o' e'
    · cases q : h1.get? b with
      | none => exact .inr rfl
      | some o1 =>
        left
        cases q' : σ1 b with
        | some o' => exact ⟨o', rfl⟩
        | none => rw [x.keep b o1 q q'] at e'; cases e'
  · obtain ⟨o', e'⟩ := x.mono b o e
    exact y.mono b o' e'

/-- raw raised values and states -/
abbrev XP := Value → Shared → Prop

/-- what a tree of values gives -/
def EP (C : Cx) (σ : Store) (h : Heap) (Q : V → Store → Prop) (v : Value) (s' : Shared) : Prop :=
  ∃ x σ', Q x σ' ∧ VR s'.heap v x ∧ St C σ' s' ∧ Evo σ h σ' s'.heap

theorem EP.after {C : Cx} {σ σ1 : Store} {h h1 : Heap} {Q : V → Store → Prop} {v : Value} {s' : Shared} (x : EP C σ1 h1 Q v s') (k : Evo σ h σ1 h1) : EP C σ h Q v s' :=
  let ⟨a, b, c, d, e, f⟩ := x; ⟨a, b, c, d, e, k.trans f⟩

/-- names to values -/
abbrev Rho := List (Str × V)
def Rho.get : Rho → Str → Option V
  | [], _ => none
  | (y, v) :: r, x => if x = y then some v else Rho.get r x
def Rho.put : Rho → Str → V → Rho
  | [], x, v => [(x, v)]
  | (y, u) :: r, x, v => if x = y then (x, v) :: r else (y, u) :: Rho.put r x v
theorem Rho.get_hit {x : Str} {v : V} {r : Rho} : Rho.get ((x, v) :: r) x = some v := by simp [Rho.get]
theorem Rho.get_miss {x y : Str} {u : V} {v : Option V} {r : Rho} (h : x ≠ y) (k : Rho.get r x = v) : Rho.get ((y, u) :: r) x = v := by simp [Rho.get, h, k]
theorem Rho.put_nil {x : Str} {v : V} : Rho.put [] x v = [(x, v)] := rfl
theorem Rho.put_miss {x y : Str} {u v : V} {r r' : Rho} (h : x ≠ y) (k : Rho.put r x v = r') : Rho.put ((y, u) :: r) x v = (y, u) :: r' := by simp [Rho.put, h, k]
theorem Rho.get_put (x : Str) (v : V) : ∀ (r : Rho) (y : Str), Rho.get (Rho.put r x v) y = if y = x then some v else Rho.get r y
  | [], y => by simp [Rho.put, Rho.get]
  | (z, u) :: r, y => by
    have ih := Rho.get_put x v r y
    by_cases h : x = z
    · subst h
      simp only [Rho.put, if_true, Rho.get]
      by_cases h2 : y = x <;> simp [h2]
    · simp only [Rho.put, h, if_false, Rho.get]
      by_cases h2 : y = z
      · subst h2; simp [Ne.symm h]
      · simp [h2, ih]

/-- the frame -/
structure Fm (C : Cx) (σ : Store) (h : Heap) (env : Env) (ρ : Rho) : Prop where
  fn : env.scope.kind = .function
  loc : ∃ m, h.Ns env.locals m ∧ ∀ x v, env.kindOf x = some .local → ρ.get x = some v → ∃ u, m x = some u ∧ VR h u v
  locs : σ env.locals = none
  abv : C.n₀ ≤ env.locals
  cell : ∀ x c, env.cells.lookup x = some c → ∃ ov, h.IsCell c ov ∧ (∀ v, ρ.get x = some v → ∃ u, ov = some u ∧ VR h u v) 
  ncell : ∀ x c, env.cells.lookup x = some c → σ c = none ∧ c ≠ env.locals ∧ C.n₀ ≤ c
  apart : ∀ x y c, env.cells.lookup x = some c → env.cells.lookup y = some c → x = y

theorem isCell_at {h h' : Heap} {c : Addr} {v : Option Value} (x : h.IsCell c v) (k : ∀ o, h.get? c = some o → h'.get? c = some o) : h'.IsCell c v := by
  unfold Heap.IsCell at *
  obtain ⟨o, e, r⟩ := x
  exact ⟨o, k _ e, r⟩

theorem Fm.evo {C : Cx} {σ σ' : Store} {h h' : Heap} {env : Env} {ρ : Rho} (F : Fm C σ h env ρ) (k : Evo σ h σ' h') : Fm C σ' h' env ρ := by
  obtain ⟨f1, ⟨m, hm, f2⟩, f3, f5, f6, f7, f8⟩ := F
  obtain ⟨o, es, ep, ho, rest⟩ := hm
  have ho' := k.keep _ _ ho f3
  have nd : ∀ b o, h.get? b = some o → σ b = none → σ' b = none := fun b o e n => by
    cases q : σ' b with
    | none => rfl
    | some o2 =>
      rcases k.dom b o2 q with ⟨o', e'⟩ | e'
      · rw [n] at e'; cases e'
      · rw [e] at e'; cases e'
  refine ⟨f1, ⟨m, ⟨o, es, ep, ho', rest⟩, fun x v hx hv => ?_⟩, nd _ _ ho f3, f5, fun x c hc => ?_, fun x c hc => ?_, f8⟩
  · obtain ⟨u, a, b⟩ := f2 x v hx hv
    exact ⟨u, a, b.mono k.tup⟩
  · obtain ⟨ov, a, b⟩ := f6 x c hc
    obtain ⟨n1, _, _⟩ := f7 x c hc
    refine ⟨ov, isCell_at a fun o e => k.keep _ _ e n1, fun v hv => ?_⟩
    obtain ⟨u, p, q⟩ := b v hv
    exact ⟨u, p, q.mono k.tup⟩
  · obtain ⟨n1, n2, n3⟩ := f7 x c hc
    obtain ⟨ov, a, b⟩ := f6 x c hc
    have a' := a
    unfold Heap.IsCell at a'
    obtain ⟨o, e, _⟩ := a'
    exact ⟨nd _ _ e n1, n2, n3⟩

/-- an expression's evaluation -/
def Ev (C : Cx) (A : Around) (env : Env) (e : Expr) (ρ : Rho) (σ : Store) (Q : V → Store → Prop) (X : XP) : Prop :=
  ∀ s, St C σ s → Fm C σ s.heap env ρ → wpAny C.M A (eval e env) (EP C σ s.heap Q) X s

/-- a test -/
def Tst (C : Cx) (A : Around) (env : Env) (e : Expr) (ρ : Rho) (σ : Store) (Q : Bool → Store → Prop) (X : XP) : Prop :=
  ∀ s, St C σ s → Fm C σ s.heap env ρ → wpAny C.M A (isTrue e env (eval e env)) (fun b s' => ∃ σ', Q b σ' ∧ St C σ' s' ∧ Evo σ s.heap σ' s'.heap) X s

def BinWP (C : Cx) (A : Around) (op : Operator) (x y : V) (σ : Store) (Q : V → Store → Prop) (X : XP) : Prop :=
  ∀ s a b, St C σ s → VR s.heap a x → VR s.heap b y → wpAny C.M A (binaryOp op a b) (EP C σ s.heap Q) X s
def CmpWP (C : Cx) (A : Around) (op : CmpOp) (x y : V) (σ : Store) (Q : V → Store → Prop) (X : XP) : Prop :=
  ∀ s a b, St C σ s → VR s.heap a x → VR s.heap b y → wpAny C.M A (compareOp op a b) (EP C σ s.heap Q) X s
def UnWP (C : Cx) (A : Around) (op : UnaryOp) (x : V) (σ : Store) (Q : V → Store → Prop) (X : XP) : Prop :=
  ∀ s a, St C σ s → VR s.heap a x → wpAny C.M A (unaryOp op a) (EP C σ s.heap Q) X s
def TruWP (C : Cx) (A : Around) (x : V) (σ : Store) (Q : Bool → Store → Prop) (X : XP) : Prop :=
  ∀ s a, St C σ s → VR s.heap a x → wpAny C.M A (truthy a) (fun b s' => ∃ σ', Q b σ' ∧ St C σ' s' ∧ Evo σ s.heap σ' s'.heap) X s

section
variable {C : Cx} {A : Around} {env : Env} {ρ : Rho} {σ : Store} {X : XP}

theorem Ev.bin {l r : Expr} {op : Operator} {pos : Pos} {Q : V → Store → Prop}
    (h : Ev C A env l ρ σ (fun x σ1 => Ev C A env r ρ σ1 (fun y σ2 => BinWP C A op x y σ2 Q X) X) X) : Ev C A env (.BinOp l op r pos) ρ σ Q X := by
  intro s S F
  refine wpAny_BinOp (wpAny_mono (h s S F) ?_ fun _ _ z => z)
  rintro a s1 ⟨x, σ1, h1, r1, S1, e1⟩
  refine wpAny_mono (h1 s1 S1 (F.evo e1)) ?_ fun _ _ z => z
  rintro b s2 ⟨y, σ2, h2, r2, S2, e2⟩
  exact wpAny_mono (h2 s2 a b S2 (r1.mono e2.tup) r2) (fun _ _ z => (z.after e2).after e1) fun _ _ z => z
end

end Mine

set_option autoImplicit false
set_option linter.unusedVariables false
namespace Mine
open PySem PySem.W

theorem St.toks {C : Cx} {σ : Store} {s : Shared} (x : St C σ s) (t : Nat) : St C σ { s with toks := t } := ⟨x.base, x.rep, x.above, x.gens, x.os⟩

section
variable {C : Cx} {A : Around} {env : Env} {ρ : Rho} {σ : Store} {X : XP}

theorem EP.pure {s : Shared} {Q : V → Store → Prop} {v : Value} {x : V} (S : St C σ s) (q : Q x σ) (r : VR s.heap v x) : EP C σ s.heap Q v s :=
  ⟨x, σ, q, r, S, .refl ..⟩
theorem EP.pureT {s : Shared} {Q : V → Store → Prop} {v : Value} {x : V} {t : Nat} (S : St C σ s) (q : Q x σ) (r : VR s.heap v x) : EP C σ s.heap Q v { s with toks := t } :=
  ⟨x, σ, q, r, S.toks t, .refl ..⟩

/- constants -/
theorem Ev.cint {i : Int} {k : Nat} {pos : Pos} {Q : V → Store → Prop} (h : Q (.int i) σ) : Ev C A env (.Constant (.int i) k pos) ρ σ Q X :=
  fun _ S _ => wpAny_Constant_int (EP.pureT S h (.int _ _))
theorem Ev.cbool {i : Bool} {k : Nat} {pos : Pos} {Q : V → Store → Prop} (h : Q (.bool i) σ) : Ev C A env (.Constant (.bool i) k pos) ρ σ Q X :=
  fun _ S _ => wpAny_Constant_bool (EP.pure S h (.bool _))
theorem Ev.cnone {k : Nat} {pos : Pos} {Q : V → Store → Prop} (h : Q .none σ) : Ev C A env (.Constant .none k pos) ρ σ Q X :=
  fun _ S _ => wpAny_Constant_none (EP.pure S h .none)

/- names -/
theorem Ev.loc {x : Str} {pos : Pos} {v : V} {Q : V → Store → Prop} (hk : env.kindOf x = some .local) (hv : ρ.get x = some v) (h : Q v σ)
    (hd : (x == ("__debug__" : Str)) = false) : Ev C A env (.Name x pos) ρ σ Q X := by
  intro s S F
  obtain ⟨m, hm, f⟩ := F.loc
  obtain ⟨u, hu, r⟩ := f x v hk hv
  exact wpAny_Name (wpAny_loadName_local F.fn hk hm hu (EP.pure S h r)) hd
theorem Ev.cel {x : Str} {pos : Pos} {v : V} {c : Addr} {Q : V → Store → Prop} (hk : env.kindOf x = some .cell) (hc : env.cells.lookup x = some c) (hv : ρ.get x = some v) (h : Q v σ)
    (hd : (x == ("__debug__" : Str)) = false) : Ev C A env (.Name x pos) ρ σ Q X := by
  intro s S F
  obtain ⟨ov, a, b⟩ := F.cell x c hc
  obtain ⟨u, rfl, r⟩ := b v hv
  exact wpAny_Name (wpAny_loadName_cell F.fn hk hc a (EP.pure S h r)) hd
/- compare -/
theorem Ev.cmp {l r : Expr} {op : CmpOp} {pos : Pos} {Q : V → Store → Prop}
    (h : Ev C A env l ρ σ (fun x σ1 => Ev C A env r ρ σ1 (fun y σ2 => CmpWP C A op x y σ2 Q X) X) X) (hm : behindInMarks op r = false := by kernel_rfl) : Ev C A env (.Compare l [op] [r] pos) ρ σ Q X := by
  intro s S F
  refine wpAny_Compare1 (wpAny_mono (h s S F) ?_ fun _ _ z => z) hm
  rintro a s1 ⟨x, σ1, h1, r1, S1, e1⟩
  refine wpAny_mono (h1 s1 S1 (F.evo e1)) ?_ fun _ _ z => z
  rintro b s2 ⟨y, σ2, h2, r2, S2, e2⟩
  exact wpAny_mono (h2 s2 a b S2 (r1.mono e2.tup) r2) (fun _ _ z => (z.after e2).after e1) fun _ _ z => z

/-- a test's end -/
def TP (C : Cx) (σ : Store) (h : Heap) (Q : Bool → Store → Prop) (b : Bool) (s' : Shared) : Prop := ∃ σ', Q b σ' ∧ St C σ' s' ∧ Evo σ h σ' s'.heap
theorem TP.after {σ1 : Store} {h h1 : Heap} {Q : Bool → Store → Prop} {v : Bool} {s' : Shared} (x : TP C σ1 h1 Q v s') (k : Evo σ h σ1 h1) : TP C σ h Q v s' :=
  let ⟨a, b, c, d⟩ := x; ⟨a, b, c, k.trans d⟩
theorem TP.pure {s : Shared} {Q : Bool → Store → Prop} {v : Bool} (S : St C σ s) (q : Q v σ) : TP C σ s.heap Q v s := ⟨σ, q, S, .refl ..⟩

theorem Tst.cmp {l r : Expr} {op : CmpOp} {pos : Pos} {Q : Bool → Store → Prop}
    (h : Ev C A env l ρ σ (fun x σ1 => Ev C A env r ρ σ1 (fun y σ2 => CmpWP C A op x y σ2 (fun c σ3 => TruWP C A c σ3 Q X) X) X) X) (hm : behindInMarks op r = false := by kernel_rfl) :
    Tst C A env (.Compare l [op] [r] pos) ρ σ Q X := by
  intro s S F
  refine wpAny_isTrue_Compare1 (wpAny_mono (h s S F) ?_ fun _ _ z => z) hm
  rintro a s1 ⟨x, σ1, h1, r1, S1, e1⟩
  refine wpAny_mono (h1 s1 S1 (F.evo e1)) ?_ fun _ _ z => z
  rintro b s2 ⟨y, σ2, h2, r2, S2, e2⟩
  refine wpAny_mono (h2 s2 a b S2 (r1.mono e2.tup) r2) ?_ fun _ _ z => z
  rintro c s3 ⟨z, σ3, h3, r3, S3, e3⟩
  exact wpAny_mono (h3 s3 c S3 r3) (fun _ _ z => TP.after z ((e1.trans e2).trans e3)) fun _ _ z => z

theorem Tst.not {e : Expr} {pos : Pos} {Q : Bool → Store → Prop} (h : Tst C A env e ρ σ (fun b σ' => Q (!b) σ') X) : Tst C A env (.UnaryOp .Not e pos) ρ σ Q X :=
  fun s S F => wpAny_isTrue_Not (h s S F)

/-- a test by its value -/
theorem Tst.val {e : Expr} {Q : Bool → Store → Prop} (h : Ev C A env e ρ σ (fun x σ1 => TruWP C A x σ1 Q X) X)
    (he : isTrue e env (eval e env) = (do let v ← eval e env; standAt e.pos; holding [v] (truthy v)) := by kernel_rfl) : Tst C A env e ρ σ Q X := by
  intro s S F
  refine wpAny_isTrue_value (wpAny_mono (h s S F) ?_ fun _ _ z => z) he
  rintro c s3 ⟨z, σ3, h3, r3, S3, e3⟩
  exact wpAny_mono (h3 s3 c S3 r3) (fun _ _ z => TP.after z e3) fun _ _ z => z

def AllT (C : Cx) (A : Around) (env : Env) (op : BoolOp) (es : List Expr) (ρ : Rho) (σ : Store) (Q : Bool → Store → Prop) (X : XP) : Prop :=
  ∀ s, St C σ s → Fm C σ s.heap env ρ → wpAny C.M A (allTrue op es env) (TP C σ s.heap Q) X s
theorem Tst.boolop {op : BoolOp} {es : List Expr} {pos : Pos} {Q : Bool → Store → Prop} (h : AllT C A env op es ρ σ Q X) : Tst C A env (.BoolOp op es pos) ρ σ Q X :=
  fun s S F => wpAny_isTrue_BoolOp (h s S F)
theorem AllT.and_nil {Q : Bool → Store → Prop} (h : Q true σ) : AllT C A env .And [] ρ σ Q X := fun s S _ => wpAny_allTrue_And_nil (TP.pure S h)
theorem AllT.or_nil {Q : Bool → Store → Prop} (h : Q false σ) : AllT C A env .Or [] ρ σ Q X := fun s S _ => wpAny_allTrue_Or_nil (TP.pure S h)
theorem AllT.and_cons {e : Expr} {es : List Expr} {Q : Bool → Store → Prop} (h : Tst C A env e ρ σ (fun b σ1 => if b then AllT C A env .And es ρ σ1 Q X else Q false σ1) X) : AllT C A env .And (e :: es) ρ σ Q X := by
  intro s S F
  refine wpAny_allTrue_And_cons (wpAny_mono (h s S F) ?_ fun _ _ z => z)
  rintro b s1 ⟨σ1, h1, S1, e1⟩
  cases b with
  | true => exact wpAny_mono (h1 s1 S1 (F.evo e1)) (fun _ _ z => TP.after z e1) fun _ _ z => z
  | false => exact ⟨σ1, h1, S1, e1⟩
theorem AllT.or_cons {e : Expr} {es : List Expr} {Q : Bool → Store → Prop} (h : Tst C A env e ρ σ (fun b σ1 => if b then Q true σ1 else AllT C A env .Or es ρ σ1 Q X) X) : AllT C A env .Or (e :: es) ρ σ Q X := by
  intro s S F
  refine wpAny_allTrue_Or_cons (wpAny_mono (h s S F) ?_ fun _ _ z => z)
  rintro b s1 ⟨σ1, h1, S1, e1⟩
  cases b with
  | false => exact wpAny_mono (h1 s1 S1 (F.evo e1)) (fun _ _ z => TP.after z e1) fun _ _ z => z
  | true => exact ⟨σ1, h1, S1, e1⟩

/- and, or as values -/
def BoolE (C : Cx) (A : Around) (env : Env) (pos : Pos) (op : BoolOp) (es : List Expr) (ρ : Rho) (σ : Store) (Q : V → Store → Prop) (X : XP) : Prop :=
  ∀ s, St C σ s → Fm C σ s.heap env ρ → wpAny C.M A (boolOp pos op (evalEach es env)) (EP C σ s.heap Q) X s
theorem Ev.boolop {op : BoolOp} {es : List Expr} {pos : Pos} {Q : V → Store → Prop} (h : BoolE C A env pos op es ρ σ Q X) : Ev C A env (.BoolOp op es pos) ρ σ Q X :=
  fun s S F => h s S F
theorem BoolE.one {op : BoolOp} {e : Expr} {pos : Pos} {Q : V → Store → Prop} (h : Ev C A env e ρ σ Q X) : BoolE C A env pos op [e] ρ σ Q X :=
  fun s S F => h s S F
theorem BoolE.and {e e' : Expr} {es : List Expr} {pos : Pos} {Q : V → Store → Prop}
    (h : Ev C A env e ρ σ (fun x σ1 => TruWP C A x σ1 (fun b σ2 => if b then BoolE C A env pos .And (e' :: es) ρ σ2 Q X else Q x σ2) X) X) : BoolE C A env pos .And (e :: e' :: es) ρ σ Q X := by
  intro s S F
  show wpAny C.M A (do
    let v ← eval e env
    standAt pos
    let t ← holding [v] (truthy v)
    match BoolOp.And, t with
    | .And, false | .Or, true => pure v
    | _, _ => boolOp pos .And (evalEach (e' :: es) env)) _ _ s
  refine wpAny_bind (wpAny_mono (h s S F) ?_ fun _ _ z => z)
  rintro v s1 ⟨x, σ1, h1, r1, S1, e1⟩
  refine wpAny_bind (wpAny_standAt (wpAny_bind (wpAny_holding (wpAny_mono (h1 s1 v S1 r1) ?_ fun _ _ z => z))))
  rintro t s2 ⟨σ2, h2, S2, e2⟩
  cases t with
  | true => exact wpAny_mono (h2 s2 S2 ((F.evo e1).evo e2)) (fun _ _ z => (z.after e2).after e1) fun _ _ z => z
  | false => exact wpAny_pure ⟨x, σ2, h2, r1.mono e2.tup, S2, e1.trans e2⟩
/- chains of two -/
/- ints -/
theorem BinWP.add_int {a b : Int} {Q : V → Store → Prop} (h : Q (.int (a + b)) σ) : BinWP C A .Add (.int a) (.int b) σ Q X := by
  rintro s _ _ S ⟨⟩ ⟨⟩; exact PySem.P.add_int (EP.pureT S h (.int _ _))
theorem BinWP.sub_int {a b : Int} {Q : V → Store → Prop} (h : Q (.int (a - b)) σ) : BinWP C A .Sub (.int a) (.int b) σ Q X := by
  rintro s _ _ S ⟨⟩ ⟨⟩; exact PySem.P.sub_int (EP.pureT S h (.int _ _))
theorem BinWP.mul_int {a b : Int} {Q : V → Store → Prop} (h : Q (.int (a * b)) σ) (hm : IntMulOk a b) : BinWP C A .Mult (.int a) (.int b) σ Q X := by
  rintro s _ _ S ⟨⟩ ⟨⟩; exact PySem.P.mul_int (EP.pureT S h (.int _ _)) hm
theorem BinWP.fdiv_int {a b : Int} {Q : V → Store → Prop} (hb : b ≠ 0) (hs : b.natAbs < 1073741824) (h : Q (.int (a.fdiv b)) σ) : BinWP C A .FloorDiv (.int a) (.int b) σ Q X := by
  rintro s _ _ S ⟨⟩ ⟨⟩; exact PyProof.Rows.floordiv_int hb (EP.pureT S h (.int _ _)) (.inl (PyProof.noPylong_small hs))
theorem BinWP.fmod_int {a b : Int} {Q : V → Store → Prop} (hb : b ≠ 0) (h : Q (.int (a.fmod b)) σ) : BinWP C A .Mod (.int a) (.int b) σ Q X := by
  rintro s _ _ S ⟨⟩ ⟨⟩; exact PyProof.Rows.mod_int' hb (EP.pureT S h (.int _ _))
theorem CmpWP.lt_int {a b : Int} {Q : V → Store → Prop} (h : Q (.bool (decide (a < b))) σ) : CmpWP C A .Lt (.int a) (.int b) σ Q X := by
  rintro s _ _ S ⟨⟩ ⟨⟩; exact PySem.P.lt_int (EP.pure S h (.bool _))
theorem CmpWP.eq_int {a b : Int} {Q : V → Store → Prop} (h : Q (.bool (a == b)) σ) : CmpWP C A .Eq (.int a) (.int b) σ Q X := by
  rintro s _ _ S ⟨⟩ ⟨⟩; exact PySem.P.eq_int (EP.pure S h (.bool _))
theorem CmpWP.ne_int {a b : Int} {Q : V → Store → Prop} (h : Q (.bool (a != b)) σ) : CmpWP C A .NotEq (.int a) (.int b) σ Q X := by
  rintro s _ _ S ⟨⟩ ⟨⟩; exact PySem.P.ne_int (EP.pure S h (.bool _))
/- strs -/
/- truth -/
theorem TruWP.bool {b : Bool} {Q : Bool → Store → Prop} (h : Q b σ) : TruWP C A (.bool b) σ Q X := by
  rintro s _ S ⟨⟩; exact wpAny_truthy_bool (TP.pure S h)
end

end Mine

set_option autoImplicit false
set_option linter.unusedVariables false
namespace Mine
open PySem PySem.W

section
variable {C : Cx} {A : Around} {env : Env} {ρ : Rho} {σ : Store} {X : XP} {s : Shared}

theorem tupKeep_sameBut {h h' : Heap} {a : Addr} (hs : Heap.SameBut a h h') (hn : ∀ o, h.get? a = some o → ¬ Imm o) : TupKeep h h' := fun b o i e => by
  by_cases q : b = a
  · subst q; exact absurd i (hn _ e)
  · exact (hs.2 b q).trans e
theorem Rep.notTup {h : Heap} {a : Addr} {o : O} (r : Rep C h a o) : ∀ o, h.get? a = some o → ¬ Imm o := fun o e => by
  obtain ⟨x, hx, h1⟩ := r.isSome
  rw [hx] at e; cases e; exact h1

theorem St.ne_of {a b : Addr} {o : O} (S : St C σ s) (ha : σ a = some o) (hb : σ b = none) : b ≠ a := fun e => by rw [e, ha] at hb; cases hb

theorem St.set {o o' : O} {a : Addr} {h' : Heap} {t : Nat} (S : St C σ s) (ha : σ a = some o) (hb : Heap.SameBut a s.heap h') (r : Rep C h' a o') :
    St C (σ.upd a o') { s with heap := h', toks := t } ∧ Evo σ s.heap (σ.upd a o') h' := by
  have tk : TupKeep s.heap h' := tupKeep_sameBut hb (S.rep a o ha).notTup
  refine ⟨⟨fun b x e => ?_, fun b x e => ?_, fun b x e => ?_, S.gens, S.os⟩, fun b x e n => ?_, fun b x e => ?_, fun b x e => ?_, tk⟩
  · have : b ≠ a := fun q => by
      subst q
      rw [(S.above b o ha).1] at e; cases e
    exact (hb.2 b this).trans (S.base b x e)
  · by_cases q : b = a
    · subst q; rw [Store.upd_self] at e; cases e; exact r
    · rw [Store.upd_ne _ _ q] at e
      exact (S.rep b x e).at (fun y hy => (hb.2 b q).trans hy) tk
  · by_cases q : b = a
    · subst q; exact S.above b o ha
    · rw [Store.upd_ne _ _ q] at e; exact S.above b x e
  · exact (hb.2 b (S.ne_of ha n)).trans e
  · left
    by_cases q : b = a
    · subst q; exact ⟨_, ha⟩
    · rw [Store.upd_ne _ _ q] at e; exact ⟨_, e⟩
  · by_cases q : b = a
    · subst q; exact ⟨_, Store.upd_self ..⟩
    · exact ⟨x, by rw [Store.upd_ne _ _ q]; exact e⟩

theorem St.fresh (S : St C σ s) : σ s.heap.objs.size = none := by
  cases q : σ s.heap.objs.size with
  | none => rfl
  | some o =>
    obtain ⟨x, hx, _⟩ := (S.rep _ _ q).isSome
    exact absurd (Heap.lt_size hx) (Nat.lt_irrefl _)

theorem get?_fresh (h : Heap) : h.get? h.objs.size = none := by
  cases q : h.get? h.objs.size with
  | none => rfl
  | some o => exact absurd (Heap.lt_size q) (Nat.lt_irrefl _)

theorem Evo.ext {h h' : Heap} (k : ∀ b o, h.get? b = some o → h'.get? b = some o) : Evo σ h σ h' :=
  ⟨fun b o e _ => k b o e, fun b o e => .inl ⟨o, e⟩, fun b o e => ⟨o, e⟩, fun a o i e => k _ _ e⟩
theorem St.ext {h' : Heap} {t : Nat} (S : St C σ s) (k : ∀ b o, s.heap.get? b = some o → h'.get? b = some o) : St C σ { s with heap := h', toks := t } :=
  ⟨fun b o e => k _ _ (S.base b o e), fun a o e => (S.rep a o e).at (fun x hx => k _ _ hx) fun _ _ _ e => k _ _ e, S.above, S.gens, S.os⟩

theorem push_size (h : Heap) (x : Obj) : (h.push x).objs.size = h.objs.size + 1 := by
  obtain ⟨o, l⟩ := h; simp [Heap.push]

theorem St.baseFresh {a : Addr} (S : St C σ s) (h : C.n₀ ≤ a) : C.h₀.get? a = none := by
  cases q : C.h₀.get? a with
  | none => rfl
  | some o => exact absurd (C.low _ _ q) (Nat.not_lt.mpr h)
theorem St.new {x : Obj} {o : O} {t : Nat} (S : St C σ s) (r : Rep C (s.heap.push x) s.heap.objs.size o) :
    St C (σ.upd s.heap.objs.size o) { s with heap := s.heap.push x, toks := t } ∧ Evo σ s.heap (σ.upd s.heap.objs.size o) (s.heap.push x) := by
  have k : ∀ b y, s.heap.get? b = some y → (s.heap.push x).get? b = some y := fun b y e => Heap.get?_push_of_some _ e
  have S' := S.ext (t := t) k
  refine ⟨⟨S'.base, fun b y e => ?_, fun b y e => ?_, S'.gens, S'.os⟩, fun b y e n => k b y e, fun b y e => ?_, fun b y e => ?_, fun a o i e => k _ _ e⟩
  · by_cases q : b = s.heap.objs.size
    · subst q; rw [Store.upd_self] at e; cases e; exact r
    · rw [Store.upd_ne _ _ q] at e; exact S'.rep b y e
  · by_cases q : b = s.heap.objs.size
    · subst q; exact ⟨S.baseFresh S.size, .inl S.size⟩
    · rw [Store.upd_ne _ _ q] at e; exact S.above b y e
  · by_cases q : b = s.heap.objs.size
    · subst q; exact .inr (get?_fresh _)
    · rw [Store.upd_ne _ _ q] at e; exact .inl ⟨_, e⟩
  · by_cases q : b = s.heap.objs.size
    · subst q; exact ⟨_, Store.upd_self ..⟩
    · exact ⟨y, by rw [Store.upd_ne _ _ q]; exact e⟩

theorem St.push {x : Obj} {t : Nat} (S : St C σ s) : St C σ { s with heap := s.heap.push x, toks := t } :=
  S.ext (fun b y e => Heap.get?_push_of_some _ e)
theorem Evo.push {h : Heap} {x : Obj} : Evo σ h σ (h.push x) := .ext fun b y e => Heap.get?_push_of_some _ e

/- argument lists, displays -/
def AP (C : Cx) (σ : Store) (h : Heap) (Q : List V → Store → Prop) (vs : List Value) (s' : Shared) : Prop :=
  ∃ xs σ', Q xs σ' ∧ VRs s'.heap vs xs ∧ St C σ' s' ∧ Evo σ h σ' s'.heap
def Ags (C : Cx) (A : Around) (env : Env) (pos : Pos) (es : List Expr) (ρ : Rho) (σ : Store) (Q : List V → Store → Prop) (X : XP) : Prop :=
  ∀ s, St C σ s → Fm C σ s.heap env ρ → wpAny C.M A (spliced (backTo pos (starEach es env))) (AP C σ s.heap Q) X s
theorem Ags.nil {pos : Pos} {Q : List V → Store → Prop} (h : Q [] σ) : Ags C A env pos [] ρ σ Q X :=
  fun s S F => wpAny_items_nil ⟨[], σ, h, .nil, S, .refl ..⟩
theorem Ags.cons {pos : Pos} {e : Expr} {es : List Expr} {Q : List V → Store → Prop}
    (h : Ev C A env e ρ σ (fun x σ1 => Ags C A env pos es ρ σ1 (fun xs σ2 => Q (x :: xs) σ2) X) X)
    (he : starEach (e :: es) env = (false, eval e env) :: starEach es env := by kernel_rfl) : Ags C A env pos (e :: es) ρ σ Q X := by
  intro s S F
  refine wpAny_items_cons (wpAny_mono (h s S F) ?_ fun _ _ z => z) he
  rintro v s1 ⟨x, σ1, h1, r1, S1, e1⟩
  refine wpAny_mono (h1 s1 S1 (F.evo e1)) ?_ fun _ _ z => z
  rintro vs s2 ⟨xs, σ2, h2, r2, S2, e2⟩
  exact ⟨x :: xs, σ2, h2, .cons (r1.mono e2.tup) r2, S2, e1.trans e2⟩

theorem VRs.push {h : Heap} {x : Obj} {vs : List Value} {xs : List V} (r : VRs h vs xs) : VRs (h.push x) vs xs := r.mono fun _ _ _ e => Heap.get?_push_of_some _ e

theorem Ev.tuple {es : List Expr} {k : Nat} {pos : Pos} {Q : V → Store → Prop} (h : Ags C A env pos es ρ σ (fun xs σ1 => xs.length ≤ sizeLine ∧ Q (.tup xs) σ1) X) :
    Ev C A env (.Tuple es k pos) ρ σ Q X := by
  intro s S F
  refine wpAny_Tuple (wpAny_mono (h s S F) ?_ fun _ _ z => z)
  rintro vs s1 ⟨xs, σ1, ⟨hz, q⟩, r1, S1, e1⟩
  refine ⟨by rw [r1.length]; exact hz, .tup xs, σ1, q, .tup (n := 0) (Heap.get?_push_size _ rfl) (by simpa using r1.push), S1.push, e1.trans .push⟩

theorem rep_list_push {h : Heap} {vs : List Value} {xs : List V} (r : VRs h vs xs) : Rep C (h.push { cls := .type "list", data := .seq vs.toArray }) h.objs.size (.list xs) :=
  ⟨vs.toArray, ⟨0, Heap.get?_push_size _ rfl⟩, by simpa using r.push⟩

theorem Ev.list {es : List Expr} {pos : Pos} {Q : V → Store → Prop} (h : Ags C A env pos es ρ σ (fun xs σ1 => xs.length ≤ sizeLine ∧ ∀ a, σ1 a = none → Q (.ref a) (σ1.upd a (.list xs))) X) :
    Ev C A env (.List es pos) ρ σ Q X := by
  intro s S F
  refine wpAny_List (wpAny_mono (h s S F) ?_ fun _ _ z => z)
  rintro vs s1 ⟨xs, σ1, ⟨hz, q⟩, r1, S1, e1⟩
  obtain ⟨S2, e2⟩ := S1.new (t := s1.toks) (rep_list_push r1)
  exact ⟨by rw [r1.length]; exact hz, .ref _, _, q _ S1.fresh, .ref _, S2, e1.trans e2⟩

/- statements -/
inductive FV where
  | next | brk | cont | ret (v : V)
inductive FR (h : Heap) : Flow → FV → Prop where
  | next : FR h .next .next
  | brk : FR h .brk .brk
  | cont : FR h .cont .cont
  | ret {v : Value} {x : V} : VR h v x → FR h (.ret v) (.ret x)

def Own (env : Env) (b : Addr) : Prop := b = env.locals ∨ ∃ x, env.cells.lookup x = some b
structure EvoF (env : Env) (σ : Store) (h : Heap) (σ' : Store) (h' : Heap) : Prop where
  keep : ∀ b o, h.get? b = some o → σ b = none → ¬ Own env b → h'.get? b = some o
  dom : ∀ b o, σ' b = some o → (∃ o', σ b = some o') ∨ h.get? b = none
  mono : ∀ b o, σ b = some o → ∃ o', σ' b = some o'
  tup : TupKeep h h'
  there : ∀ b o, h.get? b = some o → Own env b → ∃ o', h'.get? b = some o'
theorem Evo.evoF {σ' : Store} {h h' : Heap} (x : Evo σ h σ' h') (hown : ∀ b, Own env b → σ b = none) : EvoF env σ h σ' h' :=
  ⟨fun b o e n _ => x.keep b o e n, x.dom, x.mono, x.tup, fun b o e w => ⟨o, x.keep b o e (hown b w)⟩⟩
theorem EvoF.refl (h : Heap) : EvoF env σ h σ h := ⟨fun _ _ e _ _ => e, fun _ _ e => .inl ⟨_, e⟩, fun _ _ e => ⟨_, e⟩, .refl _, fun _ o e _ => ⟨o, e⟩⟩
theorem EvoF.trans {σ1 σ2 σ3 : Store} {h1 h2 h3 : Heap} (x : EvoF env σ1 h1 σ2 h2) (y : EvoF env σ2 h2 σ3 h3) : EvoF env σ1 h1 σ3 h3 := by
  refine ⟨fun b o e n w => ?_, fun b o e => ?_, fun b o e => ?_, x.tup.trans y.tup, fun b o e w => ?_⟩
  · refine y.keep b o (x.keep b o e n w) ?_ w
    cases q : σ2 b with
    | none => rfl
    | some o2 =>
      rcases x.dom b o2 q with ⟨o', e'⟩ | e'
      · rw [n] at e'; cases e'
      · rw [e] at e'; cases e'
  · rcases y.dom b o e with ⟨o', e'⟩ | e'
    · exact x.dom b o' e'
    · cases q : h1.get? b with
      | none => exact .inr rfl
      | some o1 =>
        left
        cases q' : σ1 b with
        | some o' => exact ⟨o', rfl⟩
        | none =>
          exfalso
          by_cases w : Own env b
          · obtain ⟨o', z⟩ := x.there b o1 q w
            rw [z] at e'; cases e'
          · rw [x.keep b o1 q q' w] at e'; cases e'
  · obtain ⟨o', e'⟩ := x.mono b o e
    exact y.mono b o' e'
  · obtain ⟨o', z⟩ := x.there b o e w
    exact y.there b o' z w

theorem Fm.own {h : Heap} (F : Fm C σ h env ρ) : ∀ b, Own env b → σ b = none := by
  rintro b (rfl | ⟨x, e⟩)
  · exact F.locs
  · exact (F.ncell x b e).1

def SP (C : Cx) (env : Env) (σ : Store) (h : Heap) (Q : FV → Rho → Store → Prop) (f : Flow) (s' : Shared) : Prop :=
  ∃ g ρ' σ', Q g ρ' σ' ∧ FR s'.heap f g ∧ St C σ' s' ∧ Fm C σ' s'.heap env ρ' ∧ EvoF env σ h σ' s'.heap
theorem SP.after {σ1 : Store} {h h1 : Heap} {Q : FV → Rho → Store → Prop} {f : Flow} {s' : Shared} (x : SP C env σ1 h1 Q f s') (k : EvoF env σ h σ1 h1) : SP C env σ h Q f s' :=
  let ⟨a, b, c, d, e, f, g, i⟩ := x; ⟨a, b, c, d, e, f, g, k.trans i⟩
theorem SP.mono {h : Heap} {Q Q' : FV → Rho → Store → Prop} {f : Flow} {s' : Shared} (x : SP C env σ h Q f s') (k : ∀ g ρ σ, Q g ρ σ → Q' g ρ σ) : SP C env σ h Q' f s' :=
  let ⟨a, b, c, d, e⟩ := x; ⟨a, b, c, k _ _ _ d, e⟩

def Ex (C : Cx) (A : Around) (env : Env) (st : Stmt) (ρ : Rho) (σ : Store) (Q : FV → Rho → Store → Prop) (X : XP) : Prop :=
  ∀ s, St C σ s → Fm C σ s.heap env ρ → wpAny C.M A (exec st env) (SP C env σ s.heap Q) X s
def Exs (C : Cx) (A : Around) (env : Env) (st : List Stmt) (ρ : Rho) (σ : Store) (Q : FV → Rho → Store → Prop) (X : XP) : Prop :=
  ∀ s, St C σ s → Fm C σ s.heap env ρ → wpAny C.M A (execs st env) (SP C env σ s.heap Q) X s

theorem Exs.mono {ss : List Stmt} {Q Q' : FV → Rho → Store → Prop} (h : Exs C A env ss ρ σ Q X) (k : ∀ g ρ σ, Q g ρ σ → Q' g ρ σ) : Exs C A env ss ρ σ Q' X :=
  fun s S F => wpAny_mono (h s S F) (fun _ _ z => z.mono k) fun _ _ z => z
theorem Ex.mono {ss : Stmt} {Q Q' : FV → Rho → Store → Prop} (h : Ex C A env ss ρ σ Q X) (k : ∀ g ρ σ, Q g ρ σ → Q' g ρ σ) : Ex C A env ss ρ σ Q' X :=
  fun s S F => wpAny_mono (h s S F) (fun _ _ z => z.mono k) fun _ _ z => z

/-- what goes on behind a statement -/
def Then (C : Cx) (A : Around) (env : Env) (ss : List Stmt) (Q : FV → Rho → Store → Prop) (X : XP) (g : FV) (ρ : Rho) (σ : Store) : Prop :=
  match g with
  | .next => Exs C A env ss ρ σ Q X
  | g => Q g ρ σ
theorem Exs.nil {Q : FV → Rho → Store → Prop} (h : Q .next ρ σ) : Exs C A env [] ρ σ Q X :=
  fun s S F => wpAny_execs_nil ⟨.next, ρ, σ, h, .next, S, F, .refl _⟩
theorem Exs.cons {st : Stmt} {ss : List Stmt} {Q : FV → Rho → Store → Prop} (h : Ex C A env st ρ σ (Then C A env ss Q X) X) : Exs C A env (st :: ss) ρ σ Q X := by
  intro s S F
  refine wpAny_execs_cons (wpAny_mono (h s S F) ?_ fun _ _ z => z)
  rintro f s1 ⟨g, ρ1, σ1, h1, r1, S1, F1, e1⟩
  cases r1 with
  | next => exact wpAny_mono (h1 s1 S1 F1) (fun _ _ z => z.after e1) fun _ _ z => z
  | brk => exact ⟨_, _, _, h1, .brk, S1, F1, e1⟩
  | cont => exact ⟨_, _, _, h1, .cont, S1, F1, e1⟩
  | ret r => exact ⟨_, _, _, h1, .ret r, S1, F1, e1⟩

theorem Ex.ret {e : Expr} {pos : Pos} {Q : FV → Rho → Store → Prop} (h : Ev C A env e ρ σ (fun x σ1 => Q (.ret x) ρ σ1) X) : Ex C A env (.Return (some e) pos) ρ σ Q X := by
  intro s S F
  refine wpAny_Return_some (wpAny_mono (h s S F) ?_ fun _ _ z => z)
  rintro v s1 ⟨x, σ1, h1, r1, S1, e1⟩
  exact ⟨_, _, _, h1, .ret r1, S1, F.evo e1, e1.evoF F.own⟩
theorem Ex.ite {t : Expr} {b1 b2 : List Stmt} {pos : Pos} {Q : FV → Rho → Store → Prop} (h : Tst C A env t ρ σ (fun b σ1 => if b then Exs C A env b1 ρ σ1 Q X else Exs C A env b2 ρ σ1 Q X) X) :
    Ex C A env (.If t b1 b2 pos) ρ σ Q X := by
  intro s S F
  refine wpAny_If (wpAny_mono (h s S F) ?_ fun _ _ z => z)
  rintro b s1 ⟨σ1, h1, S1, e1⟩
  cases b
  · exact wpAny_mono (h1 s1 S1 (F.evo e1)) (fun _ _ z => z.after (e1.evoF F.own)) fun _ _ z => z
  · exact wpAny_mono (h1 s1 S1 (F.evo e1)) (fun _ _ z => z.after (e1.evoF F.own)) fun _ _ z => z

/-- a list that stood at the call -/
def BaseL (C : Cx) (l : Addr) (xs : List V) : Prop := ∃ items, C.h₀.IsList l items ∧ VRs C.h₀ items.toList xs
/-- a list's items: of the store, or of the base -/
def LstAt (C : Cx) (σ : Store) (l : Addr) (xs : List V) : Prop := σ l = some (.list xs) ∨ BaseL C l xs


theorem LstAt.raw {l : Addr} {xs : List V} (h : LstAt C σ l xs) (S : St C σ s) : ∃ items, s.heap.IsList l items ∧ VRs s.heap items.toList xs := by
  rcases h with h | ⟨items, ⟨o, e, r⟩, h2⟩
  · obtain ⟨items, pl, r⟩ := S.rep _ _ h
    exact ⟨items, pl.isList, r⟩
  · exact ⟨items, ⟨o, S.base _ _ e, r⟩, h2.mono fun _ _ _ e => S.base _ _ e⟩

end

end Mine

set_option autoImplicit false
set_option linter.unusedVariables false
namespace Mine
open PySem PySem.W

section
variable {C : Cx} {A : Around} {env : Env} {ρ : Rho} {σ : Store} {X : XP} {s : Shared}

/-- a statement's value thrown away -/
theorem Ex.expr {e : Expr} {pos : Pos} {Q : FV → Rho → Store → Prop} (h : Ev C A env e ρ σ (fun x σ1 => Q .next ρ σ1) X)
    (hi : interactive env = false := by kernel_rfl) (hs : swapsWith e none pos.line env = pure false := by kernel_rfl) : Ex C A env (.Expr e pos) ρ σ Q X := by
  intro s S F
  refine wpAny_Expr_any (wpAny_mono (h s S F) ?_ fun _ _ z => z) hi hs
  rintro v s1 ⟨x, σ1, h1, r1, S1, e1⟩
  exact ⟨_, _, _, h1, .next, S1, F.evo e1, e1.evoF F.own⟩

/- assigning -/
def Asg (C : Cx) (A : Around) (env : Env) (t : Expr) (x : V) (ρ : Rho) (σ : Store) (Q : Rho → Store → Prop) (X : XP) : Prop :=
  ∀ s v, St C σ s → Fm C σ s.heap env ρ → VR s.heap v x → wpAny C.M A (assign t env v) (fun _ s' => ∃ ρ' σ', Q ρ' σ' ∧ St C σ' s' ∧ Fm C σ' s'.heap env ρ' ∧ EvoF env σ s.heap σ' s'.heap) X s

theorem Fm.storeLocal {h h' : Heap} {x : Str} {v : Value} {y : V} {m : Str → Option Value} {t : Nat} (S : St C σ s) (F : Fm C σ s.heap env ρ) (hk : env.kindOf x = some .local)
    (hm : s.heap.Ns env.locals m) (f : ∀ x v, env.kindOf x = some .local → ρ.get x = some v → ∃ u, m x = some u ∧ VR s.heap u v)
    (hn : h'.Ns env.locals (fun z => if z = x then some v else m z)) (hs : Heap.SameBut env.locals s.heap h') (r : VR s.heap v y)
    (hc : env.cells.lookup x = none) :
    St C σ { s with heap := h', toks := t } ∧ Fm C σ h' env (ρ.put x y) ∧ EvoF env σ s.heap σ h' := by
  have nt : ∀ o, s.heap.get? env.locals = some o → ¬ Imm o := fun o e => by obtain ⟨o', es, ep, ho, hd, _⟩ := hm; rw [ho] at e; cases e; exact Imm.notDict hd
  have tk := tupKeep_sameBut hs nt
  have ne : ∀ b o, σ b = some o → b ≠ env.locals := fun b o e q => by rw [q, F.locs] at e; cases e
  refine ⟨⟨fun b o e => ?_, fun b o e => ?_, S.above, S.gens, S.os⟩, ⟨F.fn, ⟨_, hn, fun z u hz hu => ?_⟩, F.locs, F.abv, fun z c hz => ?_, F.ncell, F.apart⟩, fun b o e n w => ?_, fun b o e => .inl ⟨o, e⟩, fun b o e => ⟨o, e⟩, tk, fun b o e w => ?_⟩
  · refine (hs.2 b fun q => ?_).trans (S.base b o e)
    subst q; exact absurd (C.low _ _ e) (Nat.not_lt.mpr F.abv)
  · exact (S.rep b o e).at (fun y hy => (hs.2 b (ne b o e)).trans hy) tk
  · rw [Rho.get_put] at hu
    by_cases q : z = x
    · subst q; rw [if_pos rfl] at hu; cases hu; exact ⟨v, by simp, r.mono tk⟩
    · rw [if_neg q] at hu
      obtain ⟨a, b, d⟩ := f z u hz hu
      exact ⟨a, by simp [q, b], d.mono tk⟩
  · obtain ⟨ov, a, b⟩ := F.cell z c hz
    obtain ⟨n1, n2, n3⟩ := F.ncell z c hz
    refine ⟨ov, a.sameBut hs n2, fun u hu => ?_⟩
    rw [Rho.get_put, if_neg (fun q => by subst q; rw [hc] at hz; cases hz)] at hu
    obtain ⟨p, q1, q2⟩ := b u hu
    exact ⟨p, q1, q2.mono tk⟩
  · exact (hs.2 b fun q => w (.inl q)).trans e
  · by_cases q : b = env.locals
    · subst q
      obtain ⟨o', _, _, ho, _⟩ := hn
      exact ⟨o', ho⟩
    · exact ⟨o, (hs.2 b q).trans e⟩

theorem Asg.loc {x : Str} {pos : Pos} {y : V} {ρ' : Rho} {Q : Rho → Store → Prop} (hk : env.kindOf x = some .local) (hc : env.cells.lookup x = none) (hp : ρ.put x y = ρ') (h : Q ρ' σ) :
    Asg C A env (.Name x pos) y ρ σ Q X := by
  intro s v S F r
  obtain ⟨m, hm, f⟩ := F.loc
  refine wpAny_assign_Name (wpAny_storeName_local hk hm (fun h' hn hs => ?_) (by rw [F.fn]; rfl))
  obtain ⟨a, b, c⟩ := Fm.storeLocal (h := s.heap) (t := s.toks + 1) S F hk hm f hn hs r hc
  exact ⟨_, _, h, a, hp ▸ b, c⟩

/-- one target -/
theorem Ex.assign {t value : Expr} {pos : Pos} {Q : FV → Rho → Store → Prop} (h : Ev C A env value ρ σ (fun x σ1 => Asg C A env t x ρ σ1 (fun ρ' σ' => Q .next ρ' σ') X) X)
    (hs : swapsWithSole [t] value pos.line env = pure false := by kernel_rfl) (hw : swappedStores [t] value env = pure none := by kernel_rfl)
    (ht : (assignEach [t] env).map (·.2) = [assign t env] := by kernel_rfl) : Ex C A env (.Assign [t] value pos) ρ σ Q X := by
  intro s S F
  refine wpAny_Assign_stores (wpAny_mono (h s S F) ?_ fun _ _ z => z) hs hw
  rintro v s1 ⟨x, σ1, h1, r1, S1, e1⟩
  rw [ht]
  refine wpAny_mono (h1 s1 v S1 (F.evo e1) r1) ?_ fun _ _ z => z
  rintro _ s2 ⟨ρ', σ', q, S2, F2, e2⟩
  exact ⟨_, _, _, q, .next, S2, F2, (e1.evoF F.own).trans e2⟩

/- tuple targets -/
def AsgO (C : Cx) (A : Around) (env : Env) (ts : List Expr) (xs : List V) (ρ : Rho) (σ : Store) (Q : Rho → Store → Prop) (X : XP) : Prop :=
  ∀ s vs, St C σ s → Fm C σ s.heap env ρ → VRs s.heap vs xs → wpAny C.M A (assignInOrder ((assignEach ts env).map (·.2)) vs) (fun _ s' => ∃ ρ' σ', Q ρ' σ' ∧ St C σ' s' ∧ Fm C σ' s'.heap env ρ' ∧ EvoF env σ s.heap σ' s'.heap) X s
end

end Mine

set_option autoImplicit false
set_option linter.unusedVariables false
namespace Mine
open PySem PySem.W

def FV.val : FV → V
  | .ret v => v
  | _ => .none
def fval : Flow → Value
  | .ret v => v
  | _ => .none
theorem FR.val {h : Heap} {f : Flow} {g : FV} (r : FR h f g) : VR h (fval f) g.val := by
  cases r <;> first | exact .none | assumption

def CallWP (C : Cx) (A : Around) (f : Value) (args : List V) (σ : Store) (Q : V → Store → Prop) (X : XP) : Prop :=
  ∀ s vs, St C σ s → VRs s.heap vs args → wpAny C.M A (call f vs) (EP C σ s.heap Q) X s

section
variable {kindOf : Str → Option NameKind} {h : Heap}
theorem bindL_notin {x : Str} : ∀ (names : List Str) (vals : List Value) (m : Str → Option Value), x ∉ names → bindL kindOf (names.zip vals) m x = m x
  | [], _, _, _ => rfl
  | _ :: _, [], _, _ => rfl
  | n :: names, v :: vals, m, hx => by
    show bindL kindOf (names.zip vals) _ x = m x
    rw [bindL_notin names vals _ fun q => hx (.tail _ q)]
    split
    · exact if_neg fun (q : x = n) => hx (q ▸ .head _)
    · rfl
theorem bindC_notin {x : Str} : ∀ (names : List Str) (vals : List Value) (m : Str → Option Value), x ∉ names → bindC kindOf (names.zip vals) m x = m x
  | [], _, _, _ => rfl
  | _ :: _, [], _, _ => rfl
  | n :: names, v :: vals, m, hx => by
    show bindC kindOf (names.zip vals) _ x = m x
    rw [bindC_notin names vals _ fun q => hx (.tail _ q)]
    split
    · rfl
    · exact if_neg fun (q : x = n) => hx (q ▸ .head _)
theorem bindL_get {x : Str} {y : V} : ∀ (names : List Str) (vals : List Value) (args : List V) (m : Str → Option Value), VRs h vals args → names.Nodup → kindOf x = some .local →
    Rho.get (names.zip args) x = some y → ∃ u, bindL kindOf (names.zip vals) m x = some u ∧ VR h u y
  | [], _, _, _, _, _, _, e => by cases e
  | _ :: _, _, _, _, .nil, _, _, e => by cases e
  | n :: names, v :: vals, a :: args, m, .cons r rs, nd, hk, e => by
    have nd' := List.nodup_cons.mp nd
    show ∃ u, bindL kindOf (names.zip vals) _ x = some u ∧ _
    have e' : (if x = n then some a else Rho.get (names.zip args) x) = some y := e
    by_cases q : x = n
    · subst q
      rw [if_pos rfl] at e'; cases e'
      rw [bindL_notin names vals _ nd'.1, if_pos hk]
      exact ⟨v, if_pos rfl, r⟩
    · rw [if_neg q] at e'
      exact bindL_get names vals args _ rs nd'.2 hk e'
theorem bindC_get {x : Str} {y : V} : ∀ (names : List Str) (vals : List Value) (args : List V) (m : Str → Option Value), VRs h vals args → names.Nodup → kindOf x ≠ some .local →
    Rho.get (names.zip args) x = some y → ∃ u, bindC kindOf (names.zip vals) m x = some u ∧ VR h u y
  | [], _, _, _, _, _, _, e => by cases e
  | _ :: _, _, _, _, .nil, _, _, e => by cases e
  | n :: names, v :: vals, a :: args, m, .cons r rs, nd, hk, e => by
    have nd' := List.nodup_cons.mp nd
    show ∃ u, bindC kindOf (names.zip vals) _ x = some u ∧ _
    have e' : (if x = n then some a else Rho.get (names.zip args) x) = some y := e
    by_cases q : x = n
    · subst q
      rw [if_pos rfl] at e'; cases e'
      rw [bindC_notin names vals _ nd'.1, if_neg hk]
      exact ⟨v, if_pos rfl, r⟩
    · rw [if_neg q] at e'
      exact bindC_get names vals args _ rs nd'.2 hk e'
end

theorem cellsFrom_mem : ∀ (names : List (Str × NameKind)) (n : Nat) (acc : List (Str × Addr)) (x : Str) (c : Addr), (x, c) ∈ cellsFrom n names acc → (x, c) ∈ acc ∨ (x, NameKind.cell) ∈ names
  | [], _, _, _, _, h => .inl h
  | (nm, k) :: r, n, acc, x, c, h => by
    unfold cellsFrom at h
    split at h
    · rename_i hk
      rcases cellsFrom_mem r _ _ x c h with q | q
      · rcases List.mem_cons.mp q with q | q
        · cases q
          right
          rw [← beq_iff_eq.mp hk]
          exact .head _
        · exact .inl q
      · exact .inr (.tail _ q)
    · rcases cellsFrom_mem r _ _ x c h with q | q
      · exact .inl q
      · exact .inr (.tail _ q)

/-- cells of a scope are cells by its table -/
def scopeOk (scope : Scope) : Bool := scope.names.all fun p => p.2 != .cell || scope.names.lookup p.1 == some .cell

section
variable {C : Cx} {A : Around} {env : Env} {ρ : Rho} {σ : Store} {X : XP} {s : Shared}

theorem St.callee {fd : FuncData} {f : Addr} {names : List Str} {vals : List Value} {args : List V} {s₁ : Shared} (S : St C σ s) (r : VRs s.heap vals args) (nd : names.Nodup) (hk : fd.scope.kind = .function) (hsc : scopeOk fd.scope = true)
    (x : InCallC s (callEnvC fd s.heap.objs.size f).locals (bindL (callEnvC fd s.heap.objs.size f).kindOf (names.zip vals) fun _ => none) (callEnvC fd s.heap.objs.size f).cells
        (bindC (callEnvC fd s.heap.objs.size f).kindOf (names.zip vals) fun _ => none) s₁) :
    St C σ s₁ ∧ Fm C σ s₁.heap (callEnvC fd s.heap.objs.size f) (names.zip args) ∧ (∀ b o, s.heap.get? b = some o → s₁.heap.get? b = some o) := by
  obtain ⟨⟨⟨h, tk, rfl⟩, ns, keep, fr⟩, cell, apart, above⟩ := x
  have L : (callEnvC fd s.heap.objs.size f).locals = s.heap.objs.size := rfl
  have e0 : Evo σ s.heap σ h := .ext keep
  have fresh : ∀ b, s.heap.objs.size ≤ b → σ b = none := fun b hb => by
    cases q : σ b with
    | none => rfl
    | some o =>
      obtain ⟨y, hy, _⟩ := (S.rep _ _ q).isSome
      exact absurd (Heap.lt_size hy) (Nat.not_lt.mpr hb)
  have up : ∀ n c, (callEnvC fd s.heap.objs.size f).cells.lookup n = some c → s.heap.objs.size < c := fun n c hc => L ▸ above n c (mem_of_lookup hc)
  refine ⟨S.ext keep, ⟨hk, ⟨_, ns, fun y v hy hv => bindL_get names vals args _ (r.mono e0.tup) nd hy hv⟩, fresh _ (L ▸ Nat.le_refl _), L ▸ S.size, fun y c hc => ⟨_, cell y c hc, fun v hv => ?_⟩, fun y c hc => ?_, fun y z c hy hz => ?_⟩, keep⟩
  · refine bindC_get names vals args _ (r.mono e0.tup) nd ?_ hv
    rcases cellsFrom_mem _ _ _ _ _ (mem_of_lookup hc) with q | q
    · cases q
    · have := List.all_eq_true.mp hsc _ q
      intro z
      have z' : fd.scope.names.lookup y = some .local := z
      simp only [bne_self_eq_false, Bool.false_or, beq_iff_eq] at this
      rw [z'] at this; cases this
  · have := up y c hc
    exact ⟨fresh c (Nat.le_of_lt this), fun q => by rw [q, L] at this; exact Nat.lt_irrefl _ this, Nat.le_trans S.size (Nat.le_of_lt this)⟩
  · exact name_of_addr apart (mem_of_lookup hy) (mem_of_lookup hz)

theorem EP.ret {s₁ : Shared} {fd : FuncData} {f : Addr} {Q : V → Store → Prop} {fl : Flow} {s' : Shared} (S : St C σ s) (keep : ∀ b o, s.heap.get? b = some o → s₁.heap.get? b = some o)
    (hup : ∀ n c, (callEnvC fd s.heap.objs.size f).cells.lookup n = some c → s.heap.objs.size < c)
    (z : SP C (callEnvC fd s.heap.objs.size f) σ s₁.heap (fun g _ σ' => Q g.val σ') fl s') : EP C σ s.heap Q (fval fl) s' := by
  obtain ⟨g, ρ', σ', q, r, S', F', e⟩ := z
  refine ⟨g.val, σ', q, r.val, S', fun b o hb n => ?_, fun b o hb => ?_, e.mono, fun a o i h => e.tup _ _ i (keep _ _ h)⟩
  · refine e.keep b o (keep b o hb) n ?_
    have hlt := Heap.lt_size hb
    rintro (q | ⟨x, hx⟩)
    · rw [q] at hlt; exact Nat.lt_irrefl _ hlt
    · exact absurd (hup x b hx) (Nat.not_lt.mpr (Nat.le_of_lt hlt))
  · rcases e.dom b o hb with h | h
    · exact .inl h
    · right
      cases q : s.heap.get? b with
      | none => rfl
      | some y => rw [keep b y q] at h; cases h

/-- a call of a def that raises nothing -/
theorem CallWP.fn {f : Addr} {o : Obj} {fd : FuncData} {body : List Stmt} {names : List Str} {args : List V} {Q : V → Store → Prop}
    (ho : C.h₀.get? f = some o) (hd : o.data = .func fd) (hlim : C.h₀.NoLimit) (hcd : C.h₀.CodeRec fd.code fd.qualname) (hbody : fd.body = .stmts body)
    (hbind : ∀ vals : List Value, vals.length = args.length → bindArgs fd ⟨vals, []⟩ = pure (names.zip vals)) (hclo : fd.closure = []) (nd : names.Nodup)
    (hkind : ∀ x ∈ names, fd.scope.names.lookup x = some .local ∨ (fd.scope.names.lookup x = some .cell ∧ ∀ L, ((cellsFrom L fd.scope.names []).lookup x).isSome = true))
    (hroom : A.depth < recursionLimit) (hsc : scopeOk fd.scope = true) (hco : fd.scope.isCoroutine = false) (hgen : fd.scope.isGenerator = false) (hk : fd.scope.kind = .function)
    (h : ∀ L, Exs C (A.deeper (callEnvC fd L f)) (callEnvC fd L f) body (names.zip args) σ (fun g _ σ' => Q g.val σ') (fun _ _ => False)) : CallWP C A (.ref f) args σ Q X := by
  intro s vs S r
  have hk' : ∀ b o, C.h₀.get? b = some o → s.heap.get? b = some o := S.base
  refine wpAny_call (codeAny_call_cells (fd := fd) hroom (hk' _ _ ho) hd (hlim.keeps hk') (hcd.keeps hk') hbody (hbind vs r.length) hclo ?_ (fun s₁ x => ?_) hco hgen hk)
  · intro y hy
    rcases hkind y.1 (List.of_mem_zip hy).1 with q | ⟨q, q'⟩
    · exact .inl q
    · exact .inr ⟨q, q' _⟩
  · obtain ⟨S₁, F₁, keep⟩ := S.callee r nd hk hsc x
    refine wpAny_mono (h s.heap.objs.size s₁ S₁ F₁) (fun fl s' z => ?_) (fun _ _ z => z.elim)
    have y := EP.ret S keep (fun n c hc => x.above n c (mem_of_lookup hc)) z
    cases fl <;> exact y
end

end Mine

set_option autoImplicit false
set_option linter.unusedVariables false
namespace Mine
open PySem PySem.W

section
variable {C : Cx} {A : Around} {env : Env} {ρ : Rho} {σ : Store} {X : XP} {s : Shared}

theorem St.K (S : St C σ s) : C.K.In s.heap := fun a o e => S.base _ _ (C.KX a o e)
theorem VR.base {v : Value} {x : V} (r : VR C.h₀ v x) (S : St C σ s) : VR s.heap v x := r.mono fun _ _ _ e => S.base _ _ e

theorem Ev.glob {x : Str} {pos : Pos} {v : Value} {y : V} {Q : V → Store → Prop} (hk : env.kindOf x = some .globalImplicit) (e : nsIn C.K mainGlobals x = some (some v)) (r : VR C.h₀ v y) (h : Q y σ)
    (hg : env.globals = mainGlobals) (hd : (x == ("__debug__" : Str)) = false) : Ev C A env (.Name x pos) ρ σ Q X := by
  intro s S F
  refine Calls.Name_function_global F.fn hk (Calls.loadGlobal_global (mg := C.mg) ?_ (mg_of C.KX C.hg e) (EP.pure S h (r.base S))) hd
  rw [hg]; exact C.hg.keeps S.base
theorem Ev.gblt {x : Str} {pos : Pos} {v : Value} {y : V} {Q : V → Store → Prop} (hk : env.kindOf x = some .globalImplicit) (e : nsIn C.K mainGlobals x = some none) (hv : bootBuiltins x = some v) (r : VR C.h₀ v y) (h : Q y σ)
    (hn : x ≠ "__name__") (hg : env.globals = mainGlobals) (hb : env.builtins = builtinsNs) (hd : (x == ("__debug__" : Str)) = false) : Ev C A env (.Name x pos) ρ σ Q X := by
  intro s S F
  refine Calls.Name_function_global F.fn hk (Calls.loadGlobal_builtin (mg := C.mg) (mb := C.mb) ?_ (mg_none_of C.KX C.hg e) ?_ ((C.blt x hn).trans hv) (EP.pure S h (r.base S))) hd
  · rw [hg]; exact C.hg.keeps S.base
  · rw [hb]; exact C.hb.keeps S.base

/- calls -/
/-- f may be called: its keeper is plain wherever the base stands -/
def Kp (C : Cx) (f : Value) : Prop := ∀ h : Heap, (∀ b o, C.h₀.get? b = some o → h.get? b = some o) → ∃ k, (k = Keeper.frame ∨ k = Keeper.machine ∨ k = Keeper.boundFrame) ∧ Looks C.M h (keeperOf f) k
theorem Kp.ref {f : Value} (e : keepIn C.K f = true) : Kp C f := fun h k => keeps_K e h fun a o q => k _ _ (C.KX a o q)
theorem Kp.blt {i : String} : Kp C (.builtin i) := fun h k => ⟨.machine, .inr (.inl rfl), .now⟩
theorem Kp.typ {i : String} : Kp C (.type i) := fun h k => ⟨.machine, .inr (.inl rfl), .now⟩

theorem evalArgs_sp {M : Model} {E : XP} {f : Value} {Q : Args → Shared → Prop} : ∀ {trees : List (Bool × Sem Value)}, trees.any (·.1) = false → wpAny M A (spliced trees) (fun vs s' => Q ⟨vs, []⟩ s') E s → wpAny M A (evalArgs f true trees []) Q E s
  | [], _, h => by
    unfold evalArgs
    show wpAny M A (spliced [] >>= _) Q E s
    refine wpAny_bind (wpAny_mono h (fun vs s' h' => ?_) fun _ _ x => x)
    refine wpAny_holding ?_
    exact wpAny_bind (wpAny_pure (wpAny_bind (wpAny_pure (wpAny_pure h'))))
  | (false, x) :: rest, _, h => Calls.evalArgs_plain h
  | (true, x) :: rest, e, _ => by simp at e

theorem callWith_mine {pos : Pos} {f : Value} {first : List Value} {fx : List V} {args : List Expr} {Q : V → Store → Prop} (kp : Kp C f) (S : St C σ s) (F : Fm C σ s.heap env ρ) (rf : VRs s.heap first fx)
    (h : Ags C A env pos args ρ σ (fun xs σ1 => CallWP C A f (fx ++ xs) σ1 Q X) X)
    (he : (backTo pos (starEach args env)).any (·.1) = false) :
    wpAny C.M A (callWith pos f first (backTo pos (starEach args env)) []) (EP C σ s.heap Q) X s := by
  refine callWith_of (P := fun h => ∀ b o, C.h₀.get? b = some o → h.get? b = some o) (by rw [he]; rfl) kp ?_
  refine evalArgs_sp he (wpAny_mono (h s S F) ?_ fun _ _ z => z)
  rintro vs s1 ⟨xs, σ1, q, r1, S1, e1⟩
  exact ⟨S1.base, wpAny_mono (q s1 _ S1 ((rf.mono e1.tup).append r1)) (fun _ _ z => z.after e1) fun _ _ z => z⟩

/- attributes of own instances -/
theorem dict_obj {kvs : List (Str × Value)} {h : Heap} {dx : Addr} (D : h.DictOf (strKind C.prog C.w) dx kvs) : ∃ es n, h.get? dx = some (dictOf es n) ∧ Pairs (strKind C.prog C.w) es kvs ∧ KeysOf (strKind C.prog C.w) es.toArray ∧ (kvs.map (·.1)).Nodup := by
  obtain ⟨⟨c, d, dt, sl⟩, es, ep, ho, ⟨hc, hd, hs⟩, hdt, hk, hp, hn⟩ := D
  dsimp only at hc hd hs hdt
  subst hc hd hs hdt
  exact ⟨es.toList, ep, by simpa using ho, hp, by simpa using hk, hn⟩

theorem PR.find {h : Heap} {K : Type} [DecidableEq K] {x : K} {y : V} : ∀ {kvs : List (K × Value)} {es : List (K × V)}, PR h kvs es → (es.find? fun p => decide (p.1 = x)).map (·.2) = some y → ∃ v, (kvs.find? fun p => decide (p.1 = x)).map (·.2) = some v ∧ VR h v y
  | _, _, .nil, e => by simp at e
  | _, _, .cons (k := k) r rs, e => by
    by_cases q : k = x
    · subst q
      simp only [List.find?_cons, decide_true, Option.map_some, Option.some.injEq] at e ⊢
      subst e
      exact ⟨_, rfl, r⟩
    · simp only [List.find?_cons, q, decide_false] at e ⊢
      exact PR.find rs e
theorem PR.find_none {h : Heap} {K : Type} [DecidableEq K] {x : K} : ∀ {kvs : List (K × Value)} {es : List (K × V)}, PR h kvs es → (es.find? fun p => decide (p.1 = x)) = none → (kvs.find? fun p => decide (p.1 = x)) = none
  | _, _, .nil, e => rfl
  | _, _, .cons (k := k) r rs, e => by
    by_cases q : k = x
    · subst q; simp at e
    · simp only [List.find?_cons, q, decide_false] at e ⊢
      exact PR.find_none rs e

theorem isStr_is (x : Str) (v : Value) : v.isStr x = Value.isStrOf x v := by cases v <;> rfl
theorem isStr_fun (x : Str) : (fun e : DictEntry => e.key.isStr x) = fun e => (strKind C.prog C.w).is x e.key := by
  funext e; exact isStr_is x e.key
theorem noRef_of_keys {es : List DictEntry} (hk : KeysOf (strKind C.prog C.w) es.toArray) : es.any (·.refKey) = false := by
  rw [List.any_eq_false]
  intro e he
  obtain ⟨k, q, _⟩ := hk e (by simpa using he)
  obtain ⟨t, hx⟩ := Value.isStrOf_shape q
  simp [DictEntry.refKey, hx]

theorem getL_of {kvs : List (Str × Value)} {es : List DictEntry} {x : Str} (hp : Pairs (strKind C.prog C.w) es kvs) (hk : KeysOf (strKind C.prog C.w) es.toArray) : getL x es = some (valueAt kvs x) := by
  have := hp.find x
  unfold getL
  rw [isStr_fun (C := C)]
  cases q : es.find? fun e => (strKind C.prog C.w).is x e.key with
  | some e => rw [q] at this; simpa using this
  | none =>
    rw [q] at this
    dsimp only
    rw [noRef_of_keys hk, ← this]
    rfl

def sget (es : List (Str × V)) (x : Str) : Option V := (es.find? fun p => decide (p.1 = x)).map (·.2)

theorem Ev.attr {o : Expr} {name : Str} {pos : Pos} {Q : V → Store → Prop}
    (h : Ev C A env o ρ σ (fun x σ1 => ∃ a c dx es y attr, x = .ref a ∧ σ1 a = some (.inst c dx) ∧ σ1 dx = some (.sd es) ∧ sget es name = some y ∧ plainGet C.K c name = true ∧ hasDictIn C.K c = true ∧
      findIn C.K (.ref c) name = some attr ∧ noGet C.K attr = true ∧ (∀ i, y ≠ .blt i) ∧ Q y σ1) X)
    (hbase : attributeBase o name env (eval o env) = eval o env := by kernel_rfl) : Ev C A env (.Attribute o name pos) ρ σ Q X := by
  intro s S F
  rw [arm_eval_Attribute, hbase]
  refine wpAny_bind (wpAny_mono (h s S F) ?_ fun _ _ z => z)
  rintro v s1 ⟨x, σ1, ⟨a, c, dx, es, y, attr, rfl, ha, hdx, hy, k1, k2, k3, k4, k5, q⟩, r1, S1, e1⟩
  cases r1
  have I0 := S1.rep _ _ ha
  obtain ⟨kvs, D, pr⟩ := S1.rep _ _ hdx
  obtain ⟨des, n, hd, hp, hk, hn⟩ := dict_obj D
  obtain ⟨u, hu, ru⟩ := pr.find (x := name) (y := y) hy
  have hv : handedIn u = true := by
    cases ru <;> try rfl
    exact absurd rfl (k5 _)
  refine wpAny_bind (wpAny_standAt (wpAny_bind (wpAny_holding ?_)))
  refine get_value S1.K ⟨I0, rfl, rfl, hd⟩ (plainGet_of k1).1 (findObj_own k2 k3 k4 ?_) hv ?_
  · rw [lookIn_dict, getL_of hp hk]; exact congrArg some hu
  · refine wpAny_bind (wpAny_letTemporaryGo (wpAny_pure ?_))
    exact ⟨y, σ1, q, ru, S1.toks _, e1⟩
end

end Mine

set_option autoImplicit false
set_option linter.unusedVariables false
namespace Mine
open PySem PySem.W

/-- str-keyed store -/
def sput : List (Str × V) → Str → V → List (Str × V)
  | [], x, v => [(x, v)]
  | (y, u) :: r, x, v => if x = y then (x, v) :: r else (y, u) :: sput r x v

section
variable {C : Cx} {A : Around} {env : Env} {ρ : Rho} {σ : Store} {X : XP} {s : Shared}

theorem PR.length {K : Type} {h : Heap} : ∀ {a : List (K × Value)} {b : List (K × V)}, PR h a b → a.length = b.length
  | _, _, .nil => rfl
  | _, _, .cons _ y => congrArg (· + 1) (PR.length y)
theorem stored_cons {K : Type} [DecidableEq K] {k x : K} {u v : Value} {r : List (K × Value)} (hn : (((k, u) :: r).map (·.1)).Nodup) :
    stored ((k, u) :: r) x v = if x = k then (x, v) :: r else (k, u) :: stored r x v := by
  by_cases q : x = k
  · subst q
    have : x ∉ r.map (·.1) := (List.nodup_cons.mp hn).1
    simp only [stored, List.any_cons, decide_true, Bool.true_or, if_true, List.map_cons]
    rw [map_store_of_not_mem r x v this]
  · have q' : ¬ k = x := fun e => q e.symm
    simp only [stored, List.any_cons, q', decide_false, Bool.false_or, List.map_cons, if_false, q]
    split <;> rfl

theorem PR.stored {h : Heap} {x : Str} {v : Value} {y : V} (r : VR h v y) : ∀ {kvs : List (Str × Value)} {es : List (Str × V)}, PR h kvs es → (kvs.map (·.1)).Nodup → PR h (stored kvs x v) (sput es x y)
  | _, _, .nil, _ => by
    show PR h (PySem.stored [] x v) [(x, y)]
    simp only [PySem.stored, List.any_nil, Bool.false_eq_true, if_false, List.nil_append]
    exact .cons r .nil
  | _, _, .cons (k := k) a b, hn => by
    rw [stored_cons hn]
    unfold sput
    by_cases q : x = k
    · rw [if_pos q, if_pos q]; exact .cons r b
    · rw [if_neg q, if_neg q]; exact .cons a (PR.stored r b (List.nodup_cons.mp hn).2)

theorem putName_dict {h : Heap} {d : Addr} {kvs : List (Str × Value)} {name : Str} {v : Value} {t : Tok} (D : h.DictOf (strKind C.prog C.w) d kvs) :
    ∃ es n, (h.update d (Obj.putName name (hashStr C.w name) (.str name t) v)).get? d = some (dictOf es n) ∧ es.length ≤ kvs.length + 1 ∧
    (h.update d (Obj.putName name (hashStr C.w name) (.str name t) v)).DictOf (strKind C.prog C.w) d (stored kvs name v) := by
  obtain ⟨⟨c, dd, dt, sl⟩, es, ep, ho, ⟨hc, hd, hs⟩, hdt, hk, hp, hn⟩ := D
  dsimp only at hc hd hs hdt
  subst hc hd hs hdt
  have hkey : (strKind C.prog C.w).is name (.str name t) = true := by show (name == name) = true; simp
  have hidx : (es.findIdx? fun e => (strKind C.prog C.w).is name e.key) = kvs.findIdx? fun kv => decide (kv.1 = name) := by
    rw [← hp.findIdx name]; obtain ⟨l⟩ := es; simp
  have hlen := hp.length
  have e0 : (es.findIdx? fun e => e.key.isStr name) = es.findIdx? fun e => (strKind C.prog C.w).is name e.key := by rw [isStr_fun (C := C)]
  cases hi : es.findIdx? fun e => (strKind C.prog C.w).is name e.key with
  | some i =>
    have e1 : Obj.putName name (hashStr C.w name) (.str name t) v ⟨.type "dict", none, .dict es ep, #[]⟩ = dictOf (es.modify i fun e => { e with val := v }).toList ep := by
      rw [Obj.putName_eq]; unfold Obj.putNameByArray; dsimp only; rw [e0, hi]
    have g : (h.update d (Obj.putName name (hashStr C.w name) (.str name t) v)).get? d = some (dictOf (es.modify i fun e => { e with val := v }).toList ep) := by
      rw [Heap.get?_update_self _ ho (by rw [e1]; rfl), e1]
    refine ⟨_, _, g, by simp at hlen ⊢; omega, _, _, ep, g, ⟨rfl, rfl, rfl⟩, rfl, by rw [Array.toArray_toList]; exact hk.modify i v, ?_, ?_⟩
    · rw [stored, if_pos (any_of_findIdx_some (hidx ▸ hi))]
      have hl : (es.toList.findIdx? fun e => (strKind C.prog C.w).is name e.key) = some i := by rw [← hi]; obtain ⟨l⟩ := es; simp
      have := hp.modify hn hl v
      obtain ⟨l⟩ := es
      simpa using this
    · rw [stored, if_pos (any_of_findIdx_some (hidx ▸ hi)), keys_map_store]; exact hn
  | none =>
    have hnot : name ∉ kvs.map (·.1) := not_mem_of_findIdx_none (hidx ▸ hi)
    have hany : ¬ (kvs.any fun kv => decide (kv.1 = name)) = true := by
      rw [List.any_eq_true]; rintro ⟨kv, hkv, he⟩
      exact hnot (List.mem_map.mpr ⟨kv, hkv, of_decide_eq_true he⟩)
    have e1 : Obj.putName name (hashStr C.w name) (.str name t) v ⟨.type "dict", none, .dict es ep, #[]⟩ = dictOf (es.push ⟨hashStr C.w name, .str name t, v⟩).toList (ep + 1) := by
      rw [Obj.putName_eq]; unfold Obj.putNameByArray; dsimp only; rw [e0, hi]
    have g : (h.update d (Obj.putName name (hashStr C.w name) (.str name t) v)).get? d = some (dictOf (es.push ⟨hashStr C.w name, .str name t, v⟩).toList (ep + 1)) := by
      rw [Heap.get?_update_self _ ho (by rw [e1]; rfl), e1]
    refine ⟨_, _, g, by simp at hlen ⊢; omega, _, _, ep + 1, g, ⟨rfl, rfl, rfl⟩, rfl, by rw [Array.toArray_toList]; exact hk.push hkey v, ?_, ?_⟩
    · rw [stored, if_neg hany]
      have := hp.append hkey (hashStr C.w name) v
      obtain ⟨l⟩ := es
      simpa using this
    · rw [stored, if_neg hany, List.map_append, List.nodup_append]
      refine ⟨hn, by simp, ?_⟩
      intro a ha b hb
      simp only [List.map_cons, List.map_nil, List.mem_singleton] at hb
      subst hb
      exact fun e => hnot (e ▸ ha)

theorem setAttr_mine {x c dx : Addr} {kvs : List (Str × Value)} {name : Str} {v : Value} {E : XP} {Q : Unit → Shared → Prop} (KX : C.K.In s.heap) (hx : s.heap.get? x = some (instO c dx)) (D : s.heap.DictOf (strKind C.prog C.w) dx kvs)
    (hs : findIn C.K (.ref c) "__setattr__" = some (some (.builtin "object.__setattr__"))) (hp : plainOver C.K c = true) (ht : takerIn C.K c name = some none) (hh : hasDictIn C.K c = true) (hz : kvs.length ≤ 1000)
    (h : ∀ h', h'.DictOf (strKind C.prog C.w) dx (stored kvs name v) → Heap.SameBut dx s.heap h' → Q () { s with heap := h', toks := s.toks + 1 + 1 }) : wpAny C.M A (setAttr (.ref x) name v) Q E s := by
  obtain ⟨es, n, hd, hpr, hk, hn⟩ := dict_obj D
  have I : InstAt s.heap x (instO c dx) c (some (dictOf es n)) := ⟨hx, rfl, rfl, hd⟩
  refine set_plain KX I hs (osa_open (s := { s with toks := s.toks + 1 }) KX I hp ht fun b => ?_)
  obtain ⟨cd, hc, hd'⟩ := any_some hh
  refine wpAny_bind (wpAny_pure (wpAny_bind (wpAny_bind (wpAny_loadPart (s := { s with toks := s.toks + 1 }) hx (wpAny_bind (Looks.here (s := { s with toks := s.toks + 1 }) (looks_clsIn KX hc) ?_))))))
  rw [hd']
  refine wpAny_pure (a := some dx) (wpAny_bind (wpAny_pure (wpAny_bind ?_)))
  unfold nsSet
  refine wpAny_bind (wpAny_bind (wpAny_askSetting (wpAny_pure (wpAny_bind (wpAny_mkText (wpAny_bind (wpAny_loadPart (s := { s with toks := s.toks + 1 + 1 }) hd ?_)))))))
  have cc : (!es.toArray.any (·.key.isStr name) && es.toArray.any (·.refKey)) = false := by
    rw [← Array.any_toList, ← Array.any_toList]
    simp only [noRef_of_keys hk, Bool.and_false]
  dsimp only
  rw [aRefKeyMayBeTheName_at, cc]
  obtain ⟨es', n', g, hl, D'⟩ := putName_dict (name := name) (v := v) (t := s.toks + 1) D
  refine wpAny_updatePart (s := { s with toks := s.toks + 1 + 1 }) hd ?_
  refine wpAny_bind (wpAny_lookBehind g (pastItsLine_dict (by rw [List.size_toArray, sizeLine_eq]; omega)) ?_)
  exact wpAny_pure (h _ D' (Heap.SameBut.update ..))

theorem Asg.attr {o : Expr} {name : Str} {pos : Pos} {y : V} {Q : Rho → Store → Prop}
    (h : Ev C A env o ρ σ (fun x σ1 => ∃ a c dx es, x = .ref a ∧ σ1 a = some (.inst c dx) ∧ σ1 dx = some (.sd es) ∧ es.length ≤ 1000 ∧
      findIn C.K (.ref c) "__setattr__" = some (some (.builtin "object.__setattr__")) ∧ plainOver C.K c = true ∧ takerIn C.K c name = some none ∧ hasDictIn C.K c = true ∧ Q ρ (σ1.upd dx (.sd (sput es name y)))) X) :
    Asg C A env (.Attribute o name pos) y ρ σ Q X := by
  intro s v S F r
  rw [assign_Attribute]
  refine wpAny_bind (wpAny_holding (wpAny_mono (h s S F) ?_ fun _ _ z => z))
  rintro ov s1 ⟨x, σ1, ⟨a, c, dx, es, rfl, ha, hdx, hz, k1, k2, k3, k4, q⟩, r1, S1, e1⟩
  cases r1
  have I0 := S1.rep _ _ ha
  have hdx' := S1.rep _ _ hdx
  obtain ⟨kvs, D, pr⟩ := hdx'
  have hl : kvs.length = es.length := pr.length
  have hnd : (kvs.map (·.1)).Nodup := by obtain ⟨_, _, _, _, _, _, _, _, hn⟩ := D; exact hn
  refine wpAny_bind (wpAny_standAt (wpAny_bind (wpAny_holding (setAttr_mine S1.K I0 D k1 k2 k3 k4 (by omega) fun h' D' sb => ?_))))
  refine PyProof.Rows.wpAny_release' ?_
  have tk : TupKeep s1.heap h' := tupKeep_sameBut sb (S1.rep _ _ hdx).notTup
  obtain ⟨S2, e2⟩ := S1.set (t := s1.toks + 1 + 1) (o' := .sd (sput es name y)) hdx sb ⟨_, D', PR.stored ((r.mono e1.tup).mono tk) (pr.mono tk) hnd⟩
  exact ⟨ρ, _, q, S2, (F.evo e1).evo e2, (e1.trans e2).evoF F.own⟩

/- a method of an own object -/

theorem Ev.meth {o : Expr} {name : Str} {apos pos : Pos} {args : List Expr} {Q : V → Store → Prop} {pl : Sem Bool}
    (h : Ev C A env o ρ σ (fun x σ1 => ∃ a c dx es f, x = .ref a ∧ σ1 a = some (.inst c dx) ∧ σ1 dx = some (.sd es) ∧ sget es name = none ∧ plainGet C.K c name = true ∧
      findIn C.K (.ref c) name = some (some (.ref f)) ∧ isFn C.K (.ref f) = true ∧ keepIn C.K (.ref f) = true ∧ Ags C A env pos args ρ σ1 (fun xs σ2 => CallWP C A (.ref f) (.ref a :: xs) σ2 Q X) X) X)
    (he : eval (.Call (.Attribute o name apos) args [] pos) env = (do
      let ov ← eval o env
      standAt apos.atName
      let (f, first) ← holding [ov] (getMethod ov name pl)
      callWith pos f first (backTo pos (starEach args env)) (backToKw pos (keywordEach [] env))) := by kernel_rfl)
    (hst : (backTo pos (starEach args env)).any (·.1) = false := by kernel_rfl) : Ev C A env (.Call (.Attribute o name apos) args [] pos) ρ σ Q X := by
  intro s S F
  refine methodCall_KW (wpAny_mono (h s S F) ?_ fun _ _ z => z) he
  rintro ov s1 ⟨x, σ1, ⟨a, c, dx, es, f, rfl, ha, hdx, hy, k1, k2, k3, k4, q⟩, r1, S1, e1⟩
  cases r1
  have I0 := S1.rep _ _ ha
  obtain ⟨kvs, D, pr⟩ := S1.rep _ _ hdx
  obtain ⟨des, n, hd, hp, hk, hn⟩ := dict_obj D
  have hy' : (es.find? fun p => decide (p.1 = name)) = none := by
    unfold sget at hy
    cases q : es.find? fun p => decide (p.1 = name) with
    | none => rfl
    | some z => rw [q] at hy; cases hy
  have I : InstAt s1.heap a (instO c dx) c (some (dictOf des n)) := ⟨I0, rfl, rfl, hd⟩
  refine method_fn S1.K I (plainGet_of k1).1 (plainGet_of k1).2 k2 (beq_iff_eq.mp k3) ?_ ?_
  · show (lookIn name (dictOf des n)).map _ = _
    rw [lookIn_dict, getL_of hp hk]
    unfold valueAt
    rw [pr.find_none hy']; rfl
  · exact wpAny_mono (callWith_mine (first := [.ref a]) (fx := [.ref a]) (Kp.ref k4) S1 (F.evo e1) (.cons (.ref _) .nil) q hst) (fun _ _ z => z.after e1) fun _ _ z => z
end

end Mine

set_option autoImplicit false
set_option linter.unusedVariables false
namespace Mine
open PySem PySem.W

/-- an iterator: `ow` are its own objects, `J k` its state ahead of its k-th item -/
structure Itr (C : Cx) (A : Around) (target : Expr) (it : Value) (ow : Addr → Prop) (J : Nat → Heap → Prop) (ok : Store → Prop) (xs : List V) : Prop where
  frame : ∀ k h h', J k h → TupKeep h h' → (∀ b o, ow b → h.get? b = some o → h'.get? b = some o) → J k h'
  notTup : ∀ k h b o, J k h → ow b → h.get? b = some o → ¬ Imm o
  there : ∀ k h b, J k h → ow b → ∃ o, h.get? b = some o
  more : ∀ k σ s x (Q : Option Value → Shared → Prop) (X : XP), St C σ s → ok σ → J k s.heap → xs[k]? = some x → (∀ b, ow b → σ b = none) →
    (∀ v h' tk, VR h' v x → (∀ b o, ¬ ow b → s.heap.get? b = some o → h'.get? b = some o) → (∀ b o, ow b → h'.get? b = some o → ¬ Imm o) →
      (∀ (Q' : Unit → Shared → Prop) (X' : XP), (∀ h'' tk', J (k + 1) h'' → (∀ b o, ¬ ow b → h'.get? b = some o → h''.get? b = some o) → Q' () { s with heap := h'', toks := tk' }) →
        wpAny C.M A (letOwnedTupleGo target it v) Q' X' { s with heap := h', toks := tk }) → Q (some v) { s with heap := h', toks := tk }) → wpAny C.M A (pyNext it) Q X s
  self : ∀ k (s : Shared) (Q : Value → Shared → Prop) (X : XP), J k s.heap → Q it s → wpAny C.M A (pyIter it) Q X s
  done : ∀ k σ s (Q : Option Value → Shared → Prop) (X : XP), St C σ s → ok σ → J k s.heap → xs[k]? = none → (∀ b, ow b → σ b = none) →
    (∀ h' tk, (∀ b o, ¬ ow b → s.heap.get? b = some o → h'.get? b = some o) → Q none { s with heap := h', toks := tk }) → wpAny C.M A (pyNext it) Q X s

section
variable {C : Cx} {A : Around} {env : Env} {ρ : Rho} {σ : Store} {X : XP} {s : Shared}

theorem tk_ow {h h' : Heap} {ow : Addr → Prop} (k : ∀ b o, ¬ ow b → h.get? b = some o → h'.get? b = some o) (nt : ∀ b o, ow b → h.get? b = some o → ¬ Imm o) : TupKeep h h' :=
  fun a o i e => k a _ (fun q => nt a o q e i) e
theorem St.ow {h' : Heap} {t : Nat} {ow : Addr → Prop} (S : St C σ s) (k : ∀ b o, ¬ ow b → s.heap.get? b = some o → h'.get? b = some o) (nt : ∀ b o, ow b → s.heap.get? b = some o → ¬ Imm o)
    (no : ∀ b, ow b → σ b = none) (nb : ∀ b, ow b → C.h₀.get? b = none) : St C σ { s with heap := h', toks := t } :=
  ⟨fun b o e => k b o (fun q => by rw [nb b q] at e; cases e) (S.base b o e), fun a o e => (S.rep a o e).at (fun x hx => k a x (fun q => by rw [no a q] at e; cases e) hx) (tk_ow k nt), S.above, S.gens, S.os⟩
theorem Fm.ow {h h' : Heap} {ow : Addr → Prop} (F : Fm C σ h env ρ) (k : ∀ b o, ¬ ow b → h.get? b = some o → h'.get? b = some o) (nt : ∀ b o, ow b → h.get? b = some o → ¬ Imm o) (no : ∀ b, ow b → ¬ Own env b) : Fm C σ h' env ρ := by
  obtain ⟨f1, ⟨m, hm, f2⟩, f3, f5, f6, f7, f8⟩ := F
  have tk := tk_ow k nt
  obtain ⟨o, es, ep, ho, rest⟩ := hm
  refine ⟨f1, ⟨m, ⟨o, es, ep, k _ _ (fun q => no _ q (.inl rfl)) ho, rest⟩, fun x v hx hv => ?_⟩, f3, f5, fun x c hc => ?_, f7, f8⟩
  · obtain ⟨u, a, b⟩ := f2 x v hx hv
    exact ⟨u, a, b.mono tk⟩
  · obtain ⟨ov, a, b⟩ := f6 x c hc
    refine ⟨ov, isCell_at a fun o e => k _ _ (fun q => no _ q (.inr ⟨x, hc⟩)) e, fun v hv => ?_⟩
    obtain ⟨u, p, q⟩ := b v hv
    exact ⟨u, p, q.mono tk⟩
theorem EvoF.ow {σ0 : Store} {h0 h h' : Heap} {ow : Addr → Prop} (e : EvoF env σ0 h0 σ h) (k : ∀ b o, ¬ ow b → h.get? b = some o → h'.get? b = some o) (fr : ∀ b, ow b → h0.get? b = none) : EvoF env σ0 h0 σ h' := by
  refine ⟨fun b o q n w => k b o (fun z => by rw [fr b z] at q; cases q) (e.keep b o q n w), e.dom, e.mono, fun a i n q => k a _ (fun z => by rw [fr a z] at q; cases q) (e.tup a i n q), fun b o q w => ?_⟩
  obtain ⟨o', q'⟩ := e.there b o q w
  exact ⟨o', k b o' (fun z => by rw [fr b z] at q; cases q) q'⟩

/-- the turns of a for -/
theorem for_turns {target : Expr} {it : Value} {body : List Stmt} {ow : Addr → Prop} {J : Nat → Heap → Prop} {ok : Store → Prop} {xs : List V} (W : Itr C A target it ow J ok xs) {σ0 : Store} {h0 : Heap}
    (I : Nat → Rho → Store → Prop) (Q : FV → Rho → Store → Prop)
    (fr : ∀ b, ow b → h0.get? b = none) (fro : ∀ b, ow b → ¬ Own env b) (frb : ∀ b, ow b → C.h₀.get? b = none)
    (turn : ∀ k ρ σ, I k ρ σ → ok σ ∧ match xs[k]? with
      | none => Q .next ρ σ
      | some x => Asg C A env target x ρ σ (fun ρ1 σ1 => Exs C A env body ρ1 σ1 (fun g ρ2 σ2 => match g with
          | .next | .cont => I (k + 1) ρ2 σ2
          | .brk => Q .next ρ2 σ2
          | .ret v => Q (.ret v) ρ2 σ2) (fun _ _ => False)) (fun _ _ => False)) :
    ∀ m k ρ σ s, xs.length - k = m → I k ρ σ → St C σ s → Fm C σ s.heap env ρ → EvoF env σ0 h0 σ s.heap → J k s.heap → (∀ b, ow b → σ b = none) →
      codeAny C.M A (.forLoop target it body [] env) (fun r s' => match r with | .ok f => SP C env σ0 h0 Q f s' | .error _ => False) s := by
  intro m
  induction m using Nat.strongRecOn with
  | ind m ih =>
  intro k ρ σ s hm hI S F e0 hJ no
  obtain ⟨hok, tn⟩ := turn k ρ σ hI
  refine codeAny_of_tree ?_
  show wpAny C.M _ ((forTurn target it body [] env).onRaise (fun x => do noteFrame x env; theTreesLotGoes x)) _ _ s
  rw [show A.under (.forLoop target it body [] env) = A from Around.under_of_weight (by rfl)]
  refine wpAny_noted ?_
  unfold forTurn
  refine wpAny_bind (wpAny_standAt (wpAny_bind (wpAny_onRaise ?_)))
  have nt : ∀ b o, ow b → s.heap.get? b = some o → ¬ Imm o := fun b o q => W.notTup k _ b o hJ q
  cases hx : xs[k]? with
  | none =>
    rw [hx] at tn
    refine W.done k σ s _ _ S hok hJ hx no fun h' tk kp => ?_
    refine wpAny_pure ⟨rfl, codeAny_of_tree ?_⟩
    show wpAny C.M _ (do return Fin.done (← (execs [] env).onRaise (fun x => do noteFrame x env; theTreesLotGoes x))) _ _ _
    refine wpAny_bind (wpAny_noted (wpAny_execs_nil (wpAny_pure ?_)))
    exact ⟨.next, ρ, σ, tn, .next, S.ow kp nt no frb, F.ow kp nt fro, e0.ow kp fr⟩
  | some x =>
    rw [hx] at tn
    have hk : k < xs.length := by
      have := List.getElem?_eq_some_iff.mp hx
      exact this.1
    refine W.more k σ s x _ _ S hok hJ hx no fun v h' tk rv kp nt' go => ?_
    refine wpAny_bind (go _ _ fun h'' tk' J' kp' => ?_)
    have kp2 : ∀ b o, ¬ ow b → s.heap.get? b = some o → h''.get? b = some o := fun b o q e => kp' b o q (kp b o q e)
    have S2 : St C σ { s with heap := h'', toks := tk' } := S.ow kp2 nt no frb
    have F2 : Fm C σ h'' env ρ := F.ow kp2 nt fro
    have rv2 : VR h'' v x := rv.mono (tk_ow kp' nt')
    refine wpAny_bind (wpAny_mono (tn { s with heap := h'', toks := tk' } v S2 F2 rv2) ?_ fun _ _ z => z.elim)
    rintro _ s3 ⟨ρ1, σ1, q1, S3, F3, e3⟩
    refine wpAny_bind (wpAny_mono (q1 s3 S3 F3) ?_ fun _ _ z => z.elim)
    rintro f s4 ⟨g, ρ2, σ2, q2, r2, S4, F4, e4⟩
    have e04 : EvoF env σ0 h0 σ2 s4.heap := ((e0.ow kp2 fr).trans e3).trans e4
    have al2 : ∀ b, ow b → ∃ o, h''.get? b = some o := fun b q => W.there _ _ b J' q
    have e24 : EvoF env σ h'' σ2 s4.heap := e3.trans e4
    have kpo : ∀ b o, ow b → h''.get? b = some o → s4.heap.get? b = some o := fun b o q e => e24.keep b o e (no b q) (fro b q)
    have no4 : ∀ b, ow b → σ2 b = none := fun b q => by
      cases z : σ2 b with
      | none => rfl
      | some o =>
        rcases e24.dom b o z with ⟨o', e'⟩ | e'
        · rw [no b q] at e'; cases e'
        · obtain ⟨o', e2⟩ := al2 b q
          rw [e2] at e'; cases e'
    have again' : I (k + 1) ρ2 σ2 → codeAny C.M A (.forLoop target it body [] env) (fun r s' => match r with | .ok f => SP C env σ0 h0 Q f s' | .error _ => False) s4 := fun hI' =>
      ih (xs.length - (k + 1)) (by omega) (k + 1) ρ2 σ2 s4 rfl hI' S4 F4 e04 (W.frame _ _ _ J' e24.tup kpo) no4
    cases r2 with
    | next => exact wpAny_pure ⟨rfl, again' q2⟩
    | cont => exact wpAny_pure ⟨rfl, again' q2⟩
    | brk => exact wpAny_pure ⟨.next, ρ2, σ2, q2, .next, S4, F4, e04⟩
    | ret r => exact wpAny_pure ⟨_, ρ2, σ2, q2, .ret r, S4, F4, e04⟩

/-- the turns, item by item -/
def ForL (C : Cx) (A : Around) (env : Env) (target : Expr) (body : List Stmt) (ok : Store → Prop) (Q : FV → Rho → Store → Prop) : List V → Rho → Store → Prop
  | [], ρ, σ => Q .next ρ σ
  | x :: xs, ρ, σ => Asg C A env target x ρ σ (fun ρ1 σ1 => Exs C A env body ρ1 σ1 (fun g ρ2 σ2 => match g with
      | .next | .cont => ok σ2 ∧ ForL C A env target body ok Q xs ρ2 σ2
      | .brk => Q .next ρ2 σ2
      | .ret v => Q (.ret v) ρ2 σ2) (fun _ _ => False)) (fun _ _ => False)

theorem for_run {target : Expr} {it : Value} {body : List Stmt} {ow : Addr → Prop} {J : Nat → Heap → Prop} {ok : Store → Prop} {xs : List V} (W : Itr C A target it ow J ok xs) {σ0 : Store} {h0 : Heap} {Q : FV → Rho → Store → Prop}
    (fr : ∀ b, ow b → h0.get? b = none) (fro : ∀ b, ow b → ¬ Own env b) (frb : ∀ b, ow b → C.h₀.get? b = none) (no : ∀ b, ow b → σ b = none)
    (S : St C σ s) (F : Fm C σ s.heap env ρ) (e0 : EvoF env σ0 h0 σ s.heap) (hJ : J 0 s.heap) (hok : ok σ) (h : ForL C A env target body ok Q xs ρ σ) :
    codeAny C.M A (.forLoop target it body [] env) (fun r s' => match r with | .ok f => SP C env σ0 h0 Q f s' | .error _ => False) s := by
  refine for_turns W (fun k ρ σ => ok σ ∧ ForL C A env target body ok Q (xs.drop k) ρ σ) Q fr fro frb (fun k ρ σ hI => ⟨hI.1, ?_⟩) _ 0 ρ σ s rfl ⟨hok, by simpa using h⟩ S F e0 hJ no
  cases hx : xs[k]? with
  | none =>
    have : xs.drop k = [] := List.drop_eq_nil_of_le (List.getElem?_eq_none_iff.mp hx)
    have h2 := hI.2
    rw [this] at h2
    exact h2
  | some x =>
    obtain ⟨hk, rfl⟩ := List.getElem?_eq_some_iff.mp hx
    have h2 := hI.2
    rw [List.drop_eq_getElem_cons hk] at h2
    exact h2

/-- no tuple of its own to let go -/
theorem letGo_plain {target : Expr} {it : Addr} {v : Value} {o : Obj} {T : String} {Q : Unit → Shared → Prop} {E : XP} (e : s.heap.get? it = some o) (hc : o.cls = .type T)
    (hT : ["enumerate", "zip", "dict_itemiterator", "dict_reverseitemiterator", "odict_iterator", "itertools.zip_longest", "itertools.pairwise"].contains T = false) (h : Q () s) : wpAny C.M A (letOwnedTupleGo target (.ref it) v) Q E s := by
  have key : ∀ (v : Value), wpAny C.M A (do
      let (.ref r, .ref a) := ((Value.ref it, v) : Value × Value) | return
      let o ← load r
      match o.cls, o.data with
      | .type n, .fields vs =>
        if ["enumerate", "zip", "dict_itemiterator", "dict_reverseitemiterator", "odict_iterator", "itertools.zip_longest", "itertools.pairwise"].contains n && vs[0]? == some (rawInt a) then
          rule "for.unpacks-the-owned-tuple"
          updateField r 0 .none
      | _, _ => pure ()) Q E s := fun v => by
    cases v <;> try exact wpAny_pure h
    refine wpAny_bind (wpAny_load e ?_)
    rw [hc]
    cases o.data <;> try exact wpAny_pure h
    simp only [hT, Bool.false_and, Bool.false_eq_true, if_false]
    exact wpAny_pure h
  cases target <;> first | exact wpAny_pure h | exact key v

/- lists -/
theorem Itr.list {target : Expr} {it l : Addr} {xs : List V} (hh : A.handled = none) (hne : it ≠ l) :
    Itr C A target (.ref it) (fun b => b = it) (fun k h => h.IsListIter it l k) (fun σ => LstAt C σ l xs) xs where
  frame := fun k h h' ⟨o, e, r⟩ _ kp => ⟨o, kp it o rfl e, r⟩
  notTup := fun k h b o' ⟨o, e, c, _⟩ q z => by subst q; rw [e] at z; cases z; exact Imm.not (by rw [c]; simp) (by rw [c]; simp) (by rw [c]; simp)
  there := fun k h b ⟨o, e, _⟩ q => by subst q; exact ⟨o, e⟩
  more := fun k σ s x Q X S hok hJ hx no hQ => by
    obtain ⟨items, hl, hr⟩ := hok.raw S
    obtain ⟨u, hu, ru⟩ := hr.get hx
    refine wpAny_pyNext_list_item hJ hl (by simpa using hu) fun h' J' sb => ?_
    have kp : ∀ b o, ¬ b = it → s.heap.get? b = some o → h'.get? b = some o := fun b o q e => (sb.2 b q).trans e
    have tk : TupKeep s.heap h' := tk_ow (ow := fun b => b = it) kp fun b o' q => by
      subst q
      obtain ⟨o, e, c, _⟩ := hJ
      intro z; rw [e] at z; cases z; exact Imm.not (by rw [c]; simp) (by rw [c]; simp) (by rw [c]; simp)
    refine hQ u h' s.toks (ru.mono tk) kp (fun b o' q z => ?_) (fun Q' X' hq => by
      obtain ⟨o, e, c, _⟩ := id J'
      exact letGo_plain (s := { s with heap := h' }) e c (by decide) (hq h' s.toks J' fun _ _ _ e => e))
    subst q
    obtain ⟨o, e, c, _⟩ := J'
    rw [e] at z; cases z; exact Imm.not (by rw [c]; simp) (by rw [c]; simp) (by rw [c]; simp)
  self := fun k s Q X hJ hq => wpAny_pyIter_listiter hJ hq
  done := fun k σ s Q X S hok hJ hx no hQ => by
    obtain ⟨items, hl, hr⟩ := hok.raw S
    have hn : items[k]? = none := by
      have h1 := List.getElem?_eq_none_iff.mp hx
      have h2 := hr.length
      simp only [Array.length_toList] at h2
      exact Array.getElem?_eq_none_iff.mpr (by omega)
    exact wpAny_pyNext_list_end hh hJ hl hn fun h' kp => hQ h' s.toks fun b o q e => kp b o q e

end

end Mine

set_option autoImplicit false
set_option linter.unusedVariables false
namespace Mine
open PySem PySem.W

section
variable {C : Cx} {A : Around} {env : Env} {ρ : Rho} {σ : Store} {X : XP} {s : Shared}

theorem Evo.ow {σ0 : Store} {h0 h h' : Heap} {ow : Addr → Prop} (e : Evo σ0 h0 σ h) (k : ∀ b o, ¬ ow b → h.get? b = some o → h'.get? b = some o) (fr : ∀ b, ow b → h0.get? b = none) : Evo σ0 h0 σ h' :=
  ⟨fun b o q n => k b o (fun z => by rw [fr b z] at q; cases q) (e.keep b o q n), e.dom, e.mono, fun a i n q => k a _ (fun z => by rw [fr a z] at q; cases q) (e.tup a i n q)⟩

theorem Fm.less {h : Heap} {ρ' : Rho} (F : Fm C σ h env ρ) (k : ∀ x v, ρ'.get x = some v → ρ.get x = some v) : Fm C σ h env ρ' := by
  obtain ⟨f1, ⟨m, hm, f2⟩, f3, f5, f6, f7, f8⟩ := F
  refine ⟨f1, ⟨m, hm, fun x v hx hv => f2 x v hx (k x v hv)⟩, f3, f5, fun x c hc => ?_, f7, f8⟩
  obtain ⟨ov, a, b⟩ := f6 x c hc
  exact ⟨ov, a, fun v hv => b v (k x v hv)⟩

/-- the tests of a comprehension: none, or one -/
def Ifs (C : Cx) (A : Around) (env : Env) (ifs : List Expr) (ρ : Rho) (σ : Store) (Q : Bool → Store → Prop) (X : XP) : Prop :=
  match ifs with
  | [] => Q true σ
  | [c] => Tst C A env c ρ σ Q X
  | _ => False
theorem Ifs.run {ifs : List Expr} {Q : Bool → Store → Prop} (h : Ifs C A env ifs ρ σ Q X) (S : St C σ s) (F : Fm C σ s.heap env ρ) :
    wpAny C.M A (forIn ifs true fun c r => if r = true then do let ok ← isTrue c env (eval c env); pure (ForInStep.yield ok) else pure (ForInStep.yield r)) (TP C σ s.heap Q) X s := by
  match ifs, h with
  | [], h => exact wpAny_tests_nil (TP.pure S h)
  | [c], h => exact wpAny_tests_one (h s S F)

/-- the turns of a comprehension, item by item -/
def CmpL (C : Cx) (A : Around) (env : Env) (x : Str) (ifs : List Expr) (elt : Expr) (ok : Store → Prop) (ρ : Rho) (R : List V → Store → Prop) : List V → List V → Store → Prop
  | [], out, σ => R out σ
  | y :: ys, out, σ => Ifs C A env ifs (ρ.put x y) σ (fun b σ1 =>
      if b then Ev C A env elt (ρ.put x y) σ1 (fun z σ2 => out.length ≤ sizeLine ∧ ok σ2 ∧ CmpL C A env x ifs elt ok ρ R ys (out ++ [z]) σ2) (fun _ _ => False)
      else ok σ1 ∧ CmpL C A env x ifs elt ok ρ R ys out σ1) (fun _ _ => False)

theorem comp_turns {x : Str} {px pos : Pos} {elt iter : Expr} {ifs : List Expr} {scope : Scope} {it : Value} {ow : Addr → Prop} {J : Nat → Heap → Prop} {ok : Store → Prop} {xs : List V} {acc : Addr}
    (W : Itr C A (.Name x px) it ow J ok xs) {σ0 : Store} {h0 : Heap} {R : List V → Store → Prop} {RR : Result → Shared → Prop}
    (hx : env.kindOf x = some .local) (hxc : env.cells.lookup x = none) (hxr : ρ.get x = none)
    (fr : ∀ b, ow b → h0.get? b = none) (fra : h0.get? acc = none) (frl : h0.get? env.locals = none) (frb : ∀ b, ow b → C.h₀.get? b = none) (frba : C.h₀.get? acc = none)
    (nac : ¬ ow acc) (nal : acc ≠ env.locals) (nol : ¬ ow env.locals) (noo : ∀ b, ow b → ¬ Own env b) (nao : ¬ Own env acc)
    (hR : ∀ out σ s items, R out σ → St C σ s → Evo σ0 h0 σ s.heap → s.heap.PlainList acc items → VRs s.heap items.toList out → σ acc = none → (∃ m, s.heap.Ns env.locals m) → σ env.locals = none → RR (.ok .next) s) :
    ∀ m k out σ s items, xs.length - k = m → ok σ → CmpL C A env x ifs elt ok ρ R (xs.drop k) out σ → St C σ s → Fm C σ s.heap env ρ → Evo σ0 h0 σ s.heap → J k s.heap → (∀ b, ow b → σ b = none) →
      s.heap.PlainList acc items → VRs s.heap items.toList out → σ acc = none →
      codeAny C.M A (.compLoop (.ListComp elt [⟨.Name x px, iter, ifs, 0⟩] scope pos) 0 it (.ref acc) env) RR s := by
  intro m
  induction m using Nat.strongRecOn with
  | ind m ih =>
  intro k out σ s items hm hok hL S F e0 hJ no pl rl na
  have nt : ∀ b o, ow b → s.heap.get? b = some o → ¬ Imm o := fun b o q => W.notTup k _ b o hJ q
  have dn : ∀ (σ' : Store) (h h' : Heap), Evo σ h σ' h' → ∀ b o, h.get? b = some o → σ b = none → σ' b = none := fun σ' h h' e b o q n => by
    cases z : σ' b with
    | none => rfl
    | some o2 =>
      rcases e.dom b o2 z with ⟨o', e'⟩ | e'
      · rw [n] at e'; cases e'
      · rw [q] at e'; cases e'
  refine codeAny_of_tree ?_
  show wpAny C.M _ ((compTurn (.ListComp elt [⟨.Name x px, iter, ifs, 0⟩] scope pos) 0 it (.ref acc) env).onRaise (fun x => do noteFrame x env; theTreesLotGoes x)) _ _ s
  rw [show A.under (.compLoop (.ListComp elt [⟨.Name x px, iter, ifs, 0⟩] scope pos) 0 it (.ref acc) env) = A from Around.under_of_weight (by rfl)]
  refine wpAny_noted ?_
  rw [compTurn_list]
  refine wpAny_bind (wpAny_standAt (wpAny_bind ?_))
  cases hxk : xs[k]? with
  | none =>
    have hd : xs.drop k = [] := List.drop_eq_nil_of_le (List.getElem?_eq_none_iff.mp hxk)
    rw [hd] at hL
    refine W.done k σ s _ _ S hok hJ hxk no fun h' tk kp => ?_
    refine wpAny_pure ?_
    have S' : St C σ { s with heap := h', toks := tk } := S.ow kp nt no frb
    obtain ⟨m', hm', _⟩ := (F.ow kp nt noo).loc
    exact hR out σ _ items hL S' (e0.ow kp fr) (pl.at fun o e => kp _ _ nac e) (rl.mono (tk_ow kp nt)) na ⟨m', hm'⟩ F.locs
  | some y =>
    obtain ⟨hk, rfl⟩ := List.getElem?_eq_some_iff.mp hxk
    rw [List.drop_eq_getElem_cons hk] at hL
    refine W.more k σ s _ _ _ S hok hJ hxk no fun v h' tk rv kp nt' go => ?_
    refine wpAny_bind (go _ _ fun h'' tk' J' kp' => ?_)
    have kp2 : ∀ b o, ¬ ow b → s.heap.get? b = some o → h''.get? b = some o := fun b o q e => kp' b o q (kp b o q e)
    have S2 : St C σ { s with heap := h'', toks := tk' } := S.ow kp2 nt no frb
    have F2 : Fm C σ h'' env ρ := F.ow kp2 nt noo
    have rv2 : VR h'' v xs[k] := rv.mono (tk_ow kp' nt')
    have e2 : Evo σ0 h0 σ h'' := e0.ow kp2 fr
    have pl2 : h''.PlainList acc items := pl.at fun o e => kp2 _ _ nac e
    have rl2 : VRs h'' items.toList out := rl.mono (tk_ow kp2 nt)
    obtain ⟨m0, hm0, fm0⟩ := F2.loc
    refine wpAny_bind (wpAny_assign_Name (wpAny_storeName_local (s := { s with heap := h'', toks := tk' }) hx hm0 (fun h3 hn3 hs3 => ?_) (by rw [F2.fn]; rfl)))
    obtain ⟨S3, F3, e3⟩ := Fm.storeLocal (h := h'') (t := tk' + 1) (s := { s with heap := h'', toks := tk' }) S2 F2 hx hm0 fm0 hn3 hs3 rv2 hxc
    have e03 : Evo σ0 h0 σ h3 := e2.ow (ow := fun b => b = env.locals) (fun b o q e => (hs3.2 b q).trans e) (fun b q => q ▸ frl)
    have J3 : J (k + 1) h3 := W.frame _ _ _ J' e3.tup fun b o q e => (hs3.2 b fun z => nol (z ▸ q)).trans e
    have pl3 : h3.PlainList acc items := pl2.at fun o e => (hs3.2 _ nal).trans e
    have rl3 : VRs h3 items.toList out := rl2.mono e3.tup
    have nx : ∀ (s4 : Shared) (σ4 : Store) (out' : List V) (items' : Array Value), ok σ4 → CmpL C A env x ifs elt ok ρ R (xs.drop (k + 1)) out' σ4 → St C σ4 s4 → Fm C σ4 s4.heap env (ρ.put x xs[k]) → Evo σ0 h0 σ4 s4.heap → J (k + 1) s4.heap →
        (∀ b, ow b → σ4 b = none) → s4.heap.PlainList acc items' → VRs s4.heap items'.toList out' → σ4 acc = none →
        codeAny C.M A (.compLoop (.ListComp elt [⟨.Name x px, iter, ifs, 0⟩] scope pos) 0 it (.ref acc) env) RR s4 := fun s4 σ4 out' items' hok4 hL4 S4 F4 e4 J4 no4 pl4 rl4 na4 =>
      ih (xs.length - (k + 1)) (by omega) (k + 1) out' σ4 s4 items' rfl hok4 hL4 S4 (F4.less fun z u hz => by
        rw [Rho.get_put, if_neg (fun q => by rw [q, hxr] at hz; cases hz)]; exact hz) e4 J4 no4 pl4 rl4 na4
    refine wpAny_bind (wpAny_mono (Ifs.run hL S3 F3) ?_ fun _ _ z => z.elim)
    rintro b s4 ⟨σ4, q4, S4, e4⟩
    have no4 : ∀ b, ow b → σ4 b = none := fun b q => by
      obtain ⟨o', eo⟩ := W.there _ _ b J3 q
      exact dn σ4 _ _ e4 b o' eo (no b q)
    have na4 : σ4 acc = none := by obtain ⟨n, eo⟩ := pl3; exact dn σ4 _ _ e4 acc _ eo na
    have J4 : J (k + 1) s4.heap := W.frame _ _ _ J3 e4.tup fun b o q e => e4.keep b o e (no b q)
    have pl4 : s4.heap.PlainList acc items := pl3.at fun o e => e4.keep _ _ e na
    have rl4 := rl3.mono e4.tup
    have F4 := F3.evo e4
    cases b with
    | false =>
      simp only [Bool.false_eq_true, if_false] at q4 ⊢
      exact wpAny_pure ⟨rfl, nx s4 σ4 out items q4.1 q4.2 S4 F4 (e03.trans e4) J4 no4 pl4 rl4 na4⟩
    | true =>
      simp only [if_true] at q4 ⊢
      refine wpAny_bind (wpAny_bind (wpAny_mono (q4 s4 S4 F4) ?_ fun _ _ z => z.elim))
      rintro u s5 ⟨z, σ5, ⟨hz, hok5, q5⟩, r5, S5, e5⟩
      have dn5 : ∀ b o, s4.heap.get? b = some o → σ4 b = none → σ5 b = none := fun b o q n => by
        cases z : σ5 b with
        | none => rfl
        | some o2 =>
          rcases e5.dom b o2 z with ⟨o', e'⟩ | e'
          · rw [n] at e'; cases e'
          · rw [q] at e'; cases e'
      have no5 : ∀ b, ow b → σ5 b = none := fun b q => by
        obtain ⟨o', eo⟩ := W.there _ _ b J4 q
        exact dn5 b o' eo (no4 b q)
      have na5 : σ5 acc = none := by obtain ⟨n, eo⟩ := pl4; exact dn5 acc _ eo na4
      have J5 : J (k + 1) s5.heap := W.frame _ _ _ J4 e5.tup fun b o q e => e5.keep b o e (no4 b q)
      have pl5 : s5.heap.PlainList acc items := pl4.at fun o e => e5.keep _ _ e na4
      have rl5 := rl4.mono e5.tup
      have F5 := F4.evo e5
      refine wpAny_bind (wpAny_list_append_plain pl5 (fun h6 pl6 sb6 => ?_) (by have := rl5.length; simp only [Array.length_toList] at this; omega))
      have nt6 : ∀ b o, b = acc → s5.heap.get? b = some o → ¬ Imm o := fun b o q => by
        subst q
        obtain ⟨n, eo⟩ := pl5
        intro z; rw [eo] at z; cases z; exact Imm.not (by simp) (by simp) (by simp)
      have kp6 : ∀ b o, ¬ b = acc → s5.heap.get? b = some o → h6.get? b = some o := fun b o q e => (sb6.2 b q).trans e
      have S6 : St C σ5 { s5 with heap := h6, toks := s5.toks } := S5.ow (ow := fun b => b = acc) kp6 nt6 (fun b q => q ▸ na5) (fun b q => q ▸ frba)
      have F6 : Fm C σ5 h6 env (ρ.put x xs[k]) := F5.ow (ow := fun b => b = acc) kp6 nt6 (fun b q => q ▸ nao)
      have tk6 : TupKeep s5.heap h6 := tk_ow (ow := fun b => b = acc) kp6 nt6
      refine wpAny_pure (wpAny_pure ⟨rfl, nx _ σ5 (out ++ [z]) (items.push u) hok5 q5 S6 F6 (((e03.trans e4).trans e5).ow (ow := fun b => b = acc) kp6 (fun b q => q ▸ fra)) ?_ no5 pl6 ?_ na5⟩)
      · exact W.frame _ _ _ J5 tk6 fun b o q e => kp6 b o (fun z => nac (z ▸ q)) e
      · simp only [Array.toList_push]
        exact (rl5.mono tk6).append (.cons (r5.mono tk6) .nil)
end

end Mine

set_option autoImplicit false
set_option linter.unusedVariables false
namespace Mine
open PySem PySem.W

section
variable {C : Cx} {A : Around} {env : Env} {ρ : Rho} {σ : Store} {X : XP} {s : Shared}

/-- what an iterator's making gives -/
def SrcP (C : Cx) (A : Around) (target : Expr) (σ : Store) (h : Heap) (Q : List V → (Store → Prop) → Store → Prop) (it : Value) (s2 : Shared) : Prop :=
  ∃ xs ok σ' ow J, Q xs ok σ' ∧ Itr C A target it ow J ok xs ∧ ok σ' ∧ St C σ' s2 ∧ Evo σ h σ' s2.heap ∧ (∀ b, ow b → h.get? b = none ∧ σ' b = none) ∧ J 0 s2.heap
def Src (C : Cx) (A : Around) (env : Env) (target iter : Expr) (ρ : Rho) (σ : Store) (Q : List V → (Store → Prop) → Store → Prop) (X : XP) : Prop :=
  ∀ s, St C σ s → Fm C σ s.heap env ρ → wpAny C.M A (eval iter env) (fun x s1 => wpAny C.M A (pyIter x) (SrcP C A target σ s.heap Q) X s1) X s

theorem Fm.own_there {h : Heap} (F : Fm C σ h env ρ) {b : Addr} (w : Own env b) : ∃ o, h.get? b = some o := by
  rcases w with rfl | ⟨x, e⟩
  · obtain ⟨m, ⟨o, _, _, ho, _⟩, _⟩ := F.loc
    exact ⟨o, ho⟩
  · obtain ⟨ov, ⟨o, ho, _⟩, _⟩ := F.cell x b e
    exact ⟨o, ho⟩

theorem Ex.for {target iter : Expr} {body : List Stmt} {pos : Pos} {Q : FV → Rho → Store → Prop}
    (h : Src C A env target iter ρ σ (fun xs ok σ1 => ForL C A env target body ok Q xs ρ σ1) X)
    (hs : ∀ x, foldedSetIterable iter env x = pure x := by intro _; kernel_rfl) : Ex C A env (.For target iter body [] pos) ρ σ Q X := by
  intro s S F
  refine wpAny_For (wpAny_mono (h s S F) (fun x s1 h1 => wpAny_mono h1 ?_ fun _ _ z => z) fun _ _ z => z) hs
  rintro it s2 ⟨xs, ok, σ', ow, J, q, W, hok, S2, e2, fr, hJ⟩
  refine codeAny_mono (for_run (σ0 := σ) (h0 := s.heap) W (fun b w => (fr b w).1) (fun b w z => ?_) (fun b w => ?_) (fun b w => (fr b w).2) S2 (F.evo e2) (e2.evoF F.own) hJ hok q) ?_
  · obtain ⟨o, e⟩ := F.own_there z
    rw [(fr b w).1] at e; cases e
  · cases z : C.h₀.get? b with
    | none => rfl
    | some o => have := S.base _ _ z; rw [(fr b w).1] at this; cases this
  · rintro (e | f) s' z
    · exact z.elim
    · exact z

/- sources -/
/-- iterating over a value gives these items -/
def ItV (C : Cx) (A : Around) (target : Expr) (x : V) (σ : Store) (xs : List V) (ok : Store → Prop) : Prop :=
  ok σ ∧ ∀ s v (Q : Value → Shared → Prop) (X : XP), St C σ s → VR s.heap v x → (∀ it ow J h' tk, Itr C A target it ow J ok xs → (∀ b o, s.heap.get? b = some o → h'.get? b = some o) → (∀ b, ow b → s.heap.objs.size ≤ b) → J 0 h' →
    Q it { s with heap := h', toks := tk }) → wpAny C.M A (pyIter v) Q X s

theorem St.fresh' (S : St C σ s) {b : Addr} (hb : s.heap.objs.size ≤ b) : σ b = none := by
  cases q : σ b with
  | none => rfl
  | some o =>
    obtain ⟨y, hy, _⟩ := (S.rep _ _ q).isSome
    exact absurd (Heap.lt_size hy) (Nat.not_lt.mpr hb)
theorem get?_fresh' {h : Heap} {b : Addr} (hb : h.objs.size ≤ b) : h.get? b = none := by
  cases q : h.get? b with
  | none => rfl
  | some o => exact absurd (Heap.lt_size q) (Nat.not_lt.mpr hb)
theorem Evo.fresh {σ' : Store} {h h' : Heap} {b : Addr} (S : St C σ' s) (e : Evo σ h σ' s.heap) (hb : s.heap.objs.size ≤ b) : h.get? b = none := by
  cases q : h.get? b with
  | none => rfl
  | some o =>
    have f := get?_fresh' hb
    cases z : σ b with
    | none => rw [e.keep _ _ q z] at f; cases f
    | some o' =>
      obtain ⟨o'', e''⟩ := e.mono _ _ z
      rw [S.fresh' hb] at e''; cases e''

theorem Src.of {target iter : Expr} {Q : List V → (Store → Prop) → Store → Prop} (h : Ev C A env iter ρ σ (fun x σ1 => ∃ xs ok, ItV C A target x σ1 xs ok ∧ Q xs ok σ1) X) : Src C A env target iter ρ σ Q X := by
  intro s S F
  refine wpAny_mono (h s S F) ?_ fun _ _ z => z
  rintro v s1 ⟨x, σ1, ⟨xs, ok, ⟨hok, hi⟩, q⟩, r1, S1, e1⟩
  refine hi s1 v _ _ S1 r1 fun it ow J h' tk W kp fr hJ => ?_
  exact ⟨xs, ok, σ1, ow, J, q, W, hok, S1.ext kp, e1.trans (.ext kp), fun b w => ⟨Evo.fresh (h' := s1.heap) S1 e1 (fr b w), S1.fresh' (fr b w)⟩, hJ⟩

theorem ItV.list {target : Expr} {l : Addr} {xs : List V} (hh : A.handled = none) (hl : LstAt C σ l xs) : ItV C A target (.ref l) σ xs (fun σ => LstAt C σ l xs) := by
  refine ⟨hl, fun s v Q X S r hQ => ?_⟩
  cases r
  obtain ⟨items, pl, hr⟩ := hl.raw S
  refine wpAny_pyIter_list pl ?_
  have hlt : l < s.heap.objs.size := by obtain ⟨o, e, _⟩ := pl; exact Heap.lt_size e
  exact hQ _ _ _ _ s.toks (Itr.list hh (Nat.ne_of_gt hlt)) (fun b o e => Heap.get?_push_of_some _ e) (fun b w => w ▸ Nat.le_refl _) ⟨_, Heap.get?_push_size _ rfl, rfl, rfl⟩

def irange (a b : Int) : List V := (List.range (b - a).toNat).map fun (i : Nat) => V.int (a + (i : Int))
theorem Itr.rng {target : Expr} {it : Addr} {a b : Int} (hh : A.handled = none) :
    Itr C A target (.ref it) (fun b => b = it) (fun k h => IsRangeIter h it (a + k) (((b - a).toNat : Int) - k) 1) (fun _ => True) (irange a b) where
  frame := fun k h h' e _ kp => kp it _ rfl e
  notTup := fun k h b o' e q z => by subst q; rw [e] at z; cases z; exact Imm.not (by simp) (by simp) (by simp)
  there := fun k h b e q => by subst q; exact ⟨_, e⟩
  more := fun k σ s x Q X S hok hJ hx no hQ => by
    obtain ⟨hk, rfl⟩ := List.getElem?_eq_some_iff.mp hx
    have hk' : k < (b - a).toNat := by simpa [irange] using hk
    refine wpAny_pyNext_range_item hJ (by omega) fun h' J' sb => ?_
    refine hQ _ h' (s.toks + 1) ?_ (fun b o q e => (sb.2 b q).trans e) (fun b o' q z => ?_) (fun Q' X' hq => by
      exact letGo_plain (s := { s with heap := h', toks := s.toks + 1 }) J' rfl (by decide) (hq h' (s.toks + 1) (by
        have e1 : a + (k : Int) + 1 = a + ((k + 1 : Nat) : Int) := by omega
        have e2 : ((b - a).toNat : Int) - k - 1 = ((b - a).toNat : Int) - ((k + 1 : Nat) : Int) := by omega
        rw [e1, e2] at J'; exact J') fun _ _ _ e => e))
    · simp only [irange, List.getElem_map, List.getElem_range]; exact .int _ _
    · subst q; rw [J'] at z; cases z; exact Imm.not (by simp) (by simp) (by simp)
  self := fun k s Q X hJ hq => wpAny_pyIter_rangeiter hJ hq
  done := fun k σ s Q X S hok hJ hx no hQ => by
    have h1 := List.getElem?_eq_none_iff.mp hx
    simp only [irange, List.length_map, List.length_range] at h1
    exact wpAny_pyNext_range_end hh hJ (by omega) fun h' kp => hQ h' s.toks fun b o q e => kp b o q e
theorem ItV.rng {target : Expr} {a b : Int} (hh : A.handled = none) (ha : -(2 ^ 62) ≤ a) (ha' : a < 2 ^ 62) (hb : -(2 ^ 62) ≤ b) (hb' : b < 2 ^ 62) : ItV C A target (.rng a b) σ (irange a b) (fun _ => True) := by
  refine ⟨trivial, fun s v Q X S r hQ => ?_⟩
  cases r with
  | rng hr =>
    refine wpAny_pyIter_range hr (small_one ha ha' hb hb') ?_
    refine hQ _ _ _ _ s.toks (Itr.rng (a := a) (b := b) hh) (fun b o e => Heap.get?_push_of_some _ e) (fun b w => w ▸ Nat.le_refl _) ?_
    have e2 : Builtin.Range.rangeSize a b 1 = ((b - a).toNat : Int) := by rw [rangeSize_one]; split <;> omega
    rw [e2]
    simpa using Heap.get?_push_size s.heap (o := { cls := .type "range_iterator", data := .fields #[rawInt a, rawInt ((b - a).toNat : Int), rawInt 1] }) rfl
end

end Mine

set_option autoImplicit false
set_option linter.unusedVariables false
namespace Mine
open PySem PySem.W

/-- the cells that a comprehension takes along -/
def clOf (cells : List (Str × Addr)) : List (Str × NameKind) → List (Str × Addr) → List (Str × Addr)
  | [], acc => acc
  | (n, k) :: r, acc => if k == .free then clOf cells r ((n, (cells.lookup n).getD 0) :: acc) else clOf cells r acc

theorem closure_go {env : Env} : ∀ (names : List (Str × NameKind)) (acc : List (Str × Addr)), (names.all fun p => p.2 != .free || (env.cells.lookup p.1).isSome) = true →
    (forIn names acc fun (x : Str × NameKind) (r : List (Str × Addr)) => (if x.2 == NameKind.free then (do let c ← cellOf env x.1; pure (ForInStep.yield ((x.1, c) :: r))) else pure (ForInStep.yield r) : Sem (ForInStep (List (Str × Addr))))) = pure (clOf env.cells names acc)
  | [], acc, _ => rfl
  | (n, k) :: r, acc, h => by
    simp only [List.all_cons, Bool.and_eq_true] at h
    rw [List.forIn_cons]
    unfold clOf
    by_cases q : (k == .free) = true
    · have hk : k = .free := by cases k <;> first | rfl | cases q
      subst hk
      have h1 : (env.cells.lookup n).isSome = true := by simpa using h.1
      obtain ⟨c, hc⟩ := Option.isSome_iff_exists.mp h1
      have e : cellOf env n = pure c := by unfold cellOf; rw [hc]
      simp only [q, if_true, e, pure_bind, hc, Option.getD_some]
      exact closure_go r _ h.2
    · simp only [q, if_false, pure_bind]
      exact closure_go r _ h.2
theorem closureFor_mine {env : Env} {scope : Scope} (h : (scope.names.all fun p => p.2 != .free || (env.cells.lookup p.1).isSome) = true) : closureFor scope env = pure (clOf env.cells scope.names []) := by
  unfold closureFor
  have := closure_go (env := env) scope.names [] h
  simp only [bind_pure]
  exact this

theorem clOf_mem {cells : List (Str × Addr)} : ∀ {names : List (Str × NameKind)} {acc : List (Str × Addr)} {x : Str} {c : Addr}, (x, c) ∈ clOf cells names acc → (x, c) ∈ acc ∨ ((x, NameKind.free) ∈ names ∧ c = (cells.lookup x).getD 0)
  | [], _, _, _, h => .inl h
  | (n, k) :: r, acc, x, c, h => by
    unfold clOf at h
    split at h
    · rename_i q
      have hk : k = .free := by cases k <;> first | rfl | cases q
      subst hk
      rcases clOf_mem h with z | ⟨z, e⟩
      · rcases List.mem_cons.mp z with z | z
        · cases z; exact .inr ⟨.head _, rfl⟩
        · exact .inl z
      · exact .inr ⟨.tail _ z, e⟩
    · rcases clOf_mem h with z | ⟨z, e⟩
      · exact .inl z
      · exact .inr ⟨.tail _ z, e⟩

/-- the names that a comprehension takes along, with their values -/
inductive Capt (ρ : Rho) : List (Str × NameKind) → Rho → Prop
  | nil : Capt ρ [] []
  | skip {n : Str} {k : NameKind} {r : List (Str × NameKind)} {ρc : Rho} : k ≠ .free → Capt ρ r ρc → Capt ρ ((n, k) :: r) ρc
  | take {n : Str} {v : V} {r : List (Str × NameKind)} {ρc : Rho} : ρ.get n = some v → Capt ρ r ρc → Capt ρ ((n, .free) :: r) ((n, v) :: ρc)
theorem Capt.get {ρ : Rho} {x : Str} {v : V} : ∀ {names : List (Str × NameKind)} {ρc : Rho}, Capt ρ names ρc → ρc.get x = some v → ρ.get x = some v ∧ (x, NameKind.free) ∈ names
  | _, _, .nil, h => by cases h
  | _, _, .skip _ c, h => by
    obtain ⟨a, b⟩ := c.get h
    exact ⟨a, .tail _ b⟩
  | _, _, .take (n := n) (v := u) (ρc := ρc) e c, h => by
    have h' : (if x = n then some u else Rho.get ρc x) = some v := h
    by_cases q : x = n
    · subst q; rw [if_pos rfl] at h'; cases h'; exact ⟨e, .head _⟩
    · rw [if_neg q] at h'
      obtain ⟨a, b⟩ := c.get h'
      exact ⟨a, .tail _ b⟩

def compOk (scope : Scope) : Bool := scope.names.all fun p => p.2 != .cell && (p.2 != .free || scope.names.lookup p.1 == some .free) && (p.2 != .local || scope.names.lookup p.1 == some .local)

theorem lookup_map_kind {g : Str → NameKind → NameKind} {x : Str} : ∀ (names : List (Str × NameKind)), (names.map fun (n, k) => (n, g n k)).lookup x = (names.lookup x).map (g x)
  | [] => rfl
  | (n, k) :: r => by
    simp only [List.map_cons, List.lookup_cons]
    cases q : x == n with
    | true => rw [beq_iff_eq.mp q]; rfl
    | false => exact lookup_map_kind r
theorem relabel_lookup {scope : Scope} {env : Env} {x : Str} : (relabel scope env).names.lookup x = (scope.names.lookup x).map fun k => if (k == .free && env.scope.kind == .function && env.kindOf x == some .cell) then .cell else k := by
  have e : (relabel scope env).names = scope.names.map fun (n, k) => (n, (fun (n : Str) (k : NameKind) => if (k == .free && env.scope.kind == .function && env.kindOf n == some .cell) then NameKind.cell else k) n k) := by
    unfold relabel
    refine List.map_congr_left fun p _ => ?_
    obtain ⟨n, k⟩ := p
    dsimp only
    split <;> rfl
  rw [e]
  exact lookup_map_kind (g := fun n k => if (k == .free && env.scope.kind == .function && env.kindOf n == some .cell) then NameKind.cell else k) scope.names

section
variable {C : Cx} {A : Around} {env : Env} {ρ : Rho} {σ : Store} {X : XP} {s : Shared}

theorem St.adopt {a : Addr} {o : O} {σ0 : Store} {h0 : Heap} (S : St C σ s) (r : Rep C s.heap a o) (hn : C.n₀ ≤ a) (e : Evo σ0 h0 σ s.heap) (hf : h0.get? a = none) : St C (σ.upd a o) s ∧ Evo σ0 h0 (σ.upd a o) s.heap := by
  refine ⟨⟨S.base, fun b x hx => ?_, fun b x hx => ?_, S.gens, S.os⟩, e.keep, fun b x hx => ?_, fun b x hx => ?_, e.tup⟩
  · by_cases q : b = a
    · subst q; rw [Store.upd_self] at hx; cases hx; exact r
    · rw [Store.upd_ne _ _ q] at hx; exact S.rep b x hx
  · by_cases q : b = a
    · subst q; exact ⟨S.baseFresh hn, .inl hn⟩
    · rw [Store.upd_ne _ _ q] at hx; exact S.above b x hx
  · by_cases q : b = a
    · subst q; exact .inr hf
    · rw [Store.upd_ne _ _ q] at hx; exact e.dom b x hx
  · obtain ⟨o', h'⟩ := e.mono b x hx
    by_cases q : b = a
    · subst q; exact ⟨_, Store.upd_self ..⟩
    · exact ⟨o', by rw [Store.upd_ne _ _ q]; exact h'⟩

/-- a comprehension, whatever is done with its list -/
theorem comp_run {x : Str} {px pos : Pos} {elt iter : Expr} {ifs : List Expr} {scope : Scope} {ρc : Rho} {use : Option (Value → Sem Unit)} {Qr : Value → Shared → Prop} {R : List V → Store → Prop}
    (hfree : (scope.names.all fun p => p.2 != .free || (env.cells.lookup p.1).isSome) = true) (hck : compOk scope = true) (hk : scope.kind = .function) (hx : scope.names.lookup x = some .local) (cap : Capt ρ scope.names ρc)
    (hs : ∀ x, foldedSetIterable iter env x = pure x) (S : St C σ s) (F : Fm C σ s.heap env ρ)
    (h : Src C A env (.Name x px) iter ρ σ (fun xs ok σ1 => ∀ L, CmpL C A (compEnvC scope (clOf env.cells scope.names []) L env) x ifs elt ok ρc R xs [] σ1) X)
    (fin : ∀ acc L σ2 s2 out items, R out σ2 → St C σ2 s2 → Evo σ s.heap σ2 s2.heap → s2.heap.PlainList acc items → VRs s2.heap items.toList out → σ2 acc = none → (∃ m, s2.heap.Ns L m) → σ2 L = none → C.n₀ ≤ acc → C.n₀ ≤ L → acc ≠ L → s.heap.get? acc = none → s.heap.get? L = none →
      compPost C.M A X use Qr (.ref acc) L (.ok .next) s2) :
    wpAny C.M A (comprehension (.ListComp elt [⟨.Name x px, iter, ifs, 0⟩] scope pos) scope env (firstIterPos [⟨.Name x px, iter, ifs, 0⟩] pos) (newList []) false (eval iter env) use) Qr X s := by
  have names_of : ∀ p ∈ scope.names, p.2 ≠ .cell ∧ (p.2 = .free → scope.names.lookup p.1 = some .free) ∧ (p.2 = .local → scope.names.lookup p.1 = some .local) := fun p hp => by
    have := List.all_eq_true.mp hck p hp
    simp only [Bool.and_eq_true, bne_iff_ne, ne_eq, Bool.or_eq_true, beq_iff_eq] at this
    refine ⟨this.1.1, fun e => ?_, fun e => ?_⟩
    · rcases this.1.2 with z | z
      · exact absurd e z
      · exact z
    · rcases this.2 with z | z
      · exact absurd e z
      · exact z
  refine wpAny_comprehension_free (cl := clOf env.cells scope.names []) rfl hs (closureFor_mine hfree) hk (fun p hp e => (names_of p hp).2.2 e) ?_
  refine wpAny_mono (h s S F) (fun v s1 h1 => wpAny_mono h1 ?_ fun _ _ z => z) fun _ _ z => z
  rintro it s2 ⟨xs, ok, σ', ow, J, q, W, hok, S2, e2, fr, hJ⟩
  refine wpAny_newObj_type (wpAny_newFunctionEnv (fun p hp => (names_of p hp).1) (by intro y hy; simp at hy) (fun h₁ hns₁ hsb₁ => ?_) hk)
  dsimp only at hns₁ hsb₁ ⊢
  generalize hH2 : s2.heap.push { cls := .type "list", dict := none, data := .seq ([] : List Value).toArray } = H2 at hns₁ hsb₁ ⊢
  have hC : H2.objs.size = s2.heap.objs.size + 1 := by rw [← hH2, push_size]
  have hDC : s2.heap.objs.size ≠ H2.objs.size := by rw [hC]; exact Nat.ne_of_lt (Nat.lt_succ_self _)
  have old : ∀ b o, s2.heap.get? b = some o → h₁.get? b = some o := fun b o e =>
    hsb₁.extBut b o (by rw [hC]; exact Nat.ne_of_lt (Nat.lt_succ_of_lt (Heap.lt_size e))) (Heap.get?_push_of_some _ (hH2 ▸ Heap.get?_push_of_some _ e))
  have hacc : h₁.PlainList s2.heap.objs.size #[] := ⟨_, hsb₁.extBut _ _ hDC (Heap.get?_push_of_some _ (hH2 ▸ Heap.get?_push_size _ rfl))⟩
  have F2 := F.evo e2
  have e12 : Evo σ' s2.heap σ' h₁ := .ext old
  have fresh2 : ∀ b, s2.heap.objs.size ≤ b → s.heap.get? b = none := fun b hb => Evo.fresh (h' := s2.heap) S2 e2 hb
  have hLle : s2.heap.objs.size ≤ H2.objs.size := by rw [hC]; exact Nat.le_succ _
  have cl_of : ∀ y c, (clOf env.cells scope.names []).lookup y = some c → env.cells.lookup y = some c ∧ scope.names.lookup y = some .free := fun y c hy => by
    rcases clOf_mem (mem_of_lookup hy) with z | ⟨z, e⟩
    · cases z
    · have h1 := List.all_eq_true.mp hfree _ z
      have h2 : (env.cells.lookup y).isSome = true := by simpa using h1
      obtain ⟨c', hc'⟩ := Option.isSome_iff_exists.mp h2
      rw [hc'] at e
      exact ⟨by rw [hc', e]; rfl, (names_of _ z).2.1 rfl⟩
  have S3 : St C σ' { s2 with heap := h₁, toks := s2.toks } := S2.ext old
  have F3 : Fm C σ' h₁ (compEnvC scope (clOf env.cells scope.names []) H2.objs.size env) ρc := by
    refine ⟨by show (relabel scope env).kind = _; exact hk, ⟨_, hns₁, fun y v hy hv => ?_⟩, S2.fresh' hLle, Nat.le_trans S2.size hLle, fun y c hy => ?_, fun y c hy => ?_, fun y z c hy hz => ?_⟩
    · exfalso
      obtain ⟨_, m⟩ := cap.get hv
      have h1 := (names_of _ m).2.1 rfl
      have h2 : (relabel scope env).names.lookup y = some .local := hy
      rw [relabel_lookup, h1] at h2
      simp only [Option.map_some, Option.some.injEq] at h2
      split at h2 <;> cases h2
    · obtain ⟨h1, _⟩ := cl_of y c hy
      obtain ⟨ov, a, b⟩ := (F2.evo e12).cell y c h1
      exact ⟨ov, a, fun v hv => b v (cap.get hv).1⟩
    · obtain ⟨h1, _⟩ := cl_of y c hy
      obtain ⟨n1, n2, n3⟩ := F2.ncell y c h1
      refine ⟨n1, ?_, n3⟩
      obtain ⟨ov, a, b⟩ := F2.cell y c h1
      exact Nat.ne_of_lt (Nat.lt_of_lt_of_le a.lt hLle)
    · exact F.apart y z c (cl_of y c hy).1 (cl_of z c hz).1
  have ownc : ∀ b, Own (compEnvC scope (clOf env.cells scope.names []) H2.objs.size env) b → b = H2.objs.size ∨ Own env b := by
    rintro b (z | ⟨y, z⟩)
    · exact .inl z
    · exact .inr (.inr ⟨y, (cl_of y b z).1⟩)
  have own_lt : ∀ b, Own env b → b < s2.heap.objs.size := fun b w => by
    obtain ⟨o, e⟩ := F2.own_there w
    exact Heap.lt_size e
  have owlt : ∀ b, ow b → b < s2.heap.objs.size := fun b w => by
    obtain ⟨o, e⟩ := W.there 0 _ b hJ w
    exact Heap.lt_size e
  have loop : ∀ s₃ : Shared, s₃ = { s2 with heap := h₁, toks := s2.toks + ([] : List (Str × Value)).length } →
      codeAny C.M A (.compLoop (.ListComp elt [⟨.Name x px, iter, ifs, 0⟩] scope pos) 0 it (.ref s2.heap.objs.size) (compEnvC scope (clOf env.cells scope.names []) H2.objs.size env))
        (compPost C.M A X use Qr (.ref s2.heap.objs.size) H2.objs.size) s₃ := by
    rintro s₃ rfl
    refine comp_turns (σ0 := σ) (h0 := s.heap) (R := R) W ?_ ?_ ?_ (fun b w => (fr b w).1) (fresh2 _ (Nat.le_refl _)) (fresh2 _ hLle) (fun b w => ?_) ?_ (fun w => Nat.lt_irrefl _ (owlt _ w)) hDC
      (fun w => absurd (owlt _ w) (Nat.not_lt.mpr hLle)) (fun b w z => ?_) (fun z => ?_) ?_ _ 0 [] σ' _ #[] rfl hok (by simpa using q H2.objs.size) S3 F3 (e2.trans e12) (W.frame _ _ _ hJ e12.tup fun b o _ e => old b o e)
      (fun b w => (fr b w).2) hacc .nil (S2.fresh' (Nat.le_refl _))
    · exact lookup_relabel_local hx
    · cases z : (clOf env.cells scope.names []).lookup x with
      | none => exact z
      | some c => have := (cl_of x c z).2; rw [hx] at this; cases this
    · cases z : ρc.get x with
      | none => rfl
      | some v => have := (names_of _ (cap.get z).2).2.1 rfl; rw [hx] at this; cases this
    · cases z : C.h₀.get? b with
      | none => rfl
      | some o => have := S.base _ _ z; rw [(fr b w).1] at this; cases this
    · cases z : C.h₀.get? s2.heap.objs.size with
      | none => rfl
      | some o => have := S.base _ _ z; rw [fresh2 _ (Nat.le_refl _)] at this; cases this
    · rcases ownc b z with y | y
      · exact absurd (owlt _ w) (by rw [y]; exact Nat.not_lt.mpr hLle)
      · obtain ⟨o, e⟩ := F.own_there y
        rw [(fr b w).1] at e; cases e
    · rcases ownc _ z with y | y
      · exact hDC y
      · exact Nat.lt_irrefl _ (own_lt _ y)
    · intro out σ2 s4 items hR S4 e4 pl4 r4 na4 ns4 nl4
      exact fin _ _ σ2 s4 out items hR S4 e4 pl4 r4 na4 ns4 nl4 S2.size (Nat.le_trans S2.size hLle) hDC (fresh2 _ (Nat.le_refl _)) (fresh2 _ hLle)
  exact codeAny_compStart_list (loop _ rfl) (W.self 0 _ _ _ (W.frame _ _ _ hJ e12.tup fun b o _ e => old b o e) (loop _ rfl))

theorem Ev.comp {x : Str} {px pos : Pos} {elt iter : Expr} {ifs : List Expr} {scope : Scope} {ρc : Rho} {Q : V → Store → Prop}
    (hfree : (scope.names.all fun p => p.2 != .free || (env.cells.lookup p.1).isSome) = true) (hck : compOk scope = true) (hk : scope.kind = .function) (hx : scope.names.lookup x = some .local) (cap : Capt ρ scope.names ρc)
    (h : Src C A env (.Name x px) iter ρ σ (fun xs ok σ1 => ∀ L, CmpL C A (compEnvC scope (clOf env.cells scope.names []) L env) x ifs elt ok ρc (fun out σ2 => ∀ a, σ2 a = Option.none → Q (.ref a) (σ2.upd a (.list out))) xs [] σ1) X)
    (hs : ∀ x, foldedSetIterable iter env x = Pure.pure x := by intro _; kernel_rfl) : Ev C A env (.ListComp elt [⟨.Name x px, iter, ifs, 0⟩] scope pos) ρ σ Q X := by
  intro s S F
  rw [eval_ListComp]
  refine comp_run hfree hck hk hx cap hs S F h ?_
  intro acc L σ2 s2 out items q S2 e2 pl2 r2 na2 ⟨m, hm⟩ nl2 n1 n2 hne fa fl
  refine ⟨m, hm, fun h' sb => ?_⟩
  have kp : ∀ b o, ¬ b = L → s2.heap.get? b = some o → h'.get? b = some o := fun b o w e => (sb.2 b w).trans e
  have nt : ∀ b o, b = L → s2.heap.get? b = some o → ¬ Imm o := fun b o w z => by
    subst w
    obtain ⟨o', es, ep, ho, hd, _⟩ := hm
    rw [ho] at z; cases z; exact Imm.notDict hd
  have S3 : St C σ2 { s2 with heap := h', toks := s2.toks } := S2.ow (ow := fun b => b = L) kp nt (fun b w => w ▸ nl2) (fun b w => by
    subst w
    cases z : C.h₀.get? b with
    | none => rfl
    | some o => exact absurd (C.low _ _ z) (Nat.not_lt.mpr n2))
  have e3 : Evo σ s.heap σ2 h' := e2.ow (ow := fun b => b = L) kp (fun b w => w ▸ fl)
  obtain ⟨S4, e4⟩ := S3.adopt (a := acc) (o := .list out) ⟨items, pl2.at fun o e => kp _ _ hne e, r2.mono (tk_ow (ow := fun b => b = L) kp nt)⟩ n1 e3 fa
  exact ⟨.ref acc, _, q acc na2, .ref _, S4, e4⟩

/-- a comprehension stored into a name of the frame's own straight away -/
theorem Ex.assignComp {x y : Str} {px py pos spos : Pos} {elt iter : Expr} {ifs : List Expr} {scope : Scope} {ρc : Rho} {Q : FV → Rho → Store → Prop}
    (hfree : (scope.names.all fun p => p.2 != .free || (env.cells.lookup p.1).isSome) = true) (hck : compOk scope = true) (hk : scope.kind = .function) (hx : scope.names.lookup x = some .local) (cap : Capt ρ scope.names ρc)
    (hy : env.kindOf y = some .local) (hyc : env.cells.lookup y = none)
    (h : Src C A env (.Name x px) iter ρ σ (fun xs ok σ1 => ∀ L, CmpL C A (compEnvC scope (clOf env.cells scope.names []) L env) x ifs elt ok ρc (fun out σ2 => ∀ a, σ2 a = none → Q .next (ρ.put y (.ref a)) (σ2.upd a (.list out))) xs [] σ1) X)
    (hsw : swapsWith (.ListComp elt [⟨.Name x px, iter, ifs, 0⟩] scope pos) (some (.Name y py)) spos.line env = pure true := by kernel_rfl)
    (hs : ∀ x, foldedSetIterable iter env x = pure x := by intro _; kernel_rfl) : Ex C A env (.Assign [.Name y py] (.ListComp elt [⟨.Name x px, iter, ifs, 0⟩] scope pos) spos) ρ σ Q X := by
  intro s S F
  rw [exec_Assign_Name_used _ _ _ _ hsw]
  refine wpAny_bind (wpAny_standAt (wpAny_bind ?_))
  rw [arm_evalThenUse_ListComp]
  refine wpAny_bind ?_
  refine comp_run (Qr := fun _ s' => wpAny C.M A (pure PUnit.unit) (fun _ s' => wpAny C.M A (pure Flow.next) (SP C env σ s.heap Q) X s') X s') hfree hck hk hx cap hs S F h ?_
  intro acc L σ2 s2 out items q S2 e2 pl2 r2 na2 ⟨m, hm⟩ nl2 n1 n2 hne fa fl
  have F2 := F.evo e2
  obtain ⟨m2, hm2, f2⟩ := F2.loc
  have hLe : L ≠ env.locals := fun z => by
    obtain ⟨o, e⟩ := F.own_there (.inl rfl)
    rw [z, e] at fl; cases fl
  have hAe : acc ≠ env.locals := fun z => by
    obtain ⟨o, e⟩ := F.own_there (.inl rfl)
    rw [z, e] at fa; cases fa
  obtain ⟨S4, e4⟩ := S2.adopt (a := acc) (o := .list out) ⟨items, pl2, r2⟩ n1 e2 fa
  have F4 : Fm C (σ2.upd acc (.list out)) s2.heap env ρ := F.evo e4
  refine wpAny_assign_Name (wpAny_storeName_local hy hm2 (fun h3 hn3 hs3 => ?_) (by rw [F2.fn]; rfl))
  obtain ⟨S5, F5, e5⟩ := Fm.storeLocal (h := s2.heap) (t := s2.toks + 1) S4 F4 hy hm2 f2 hn3 hs3 (VR.ref acc) hyc
  have hm3 : h3.Ns L m := hm.sameBut hs3 hLe
  refine ⟨m, hm3, fun h' sb => ?_⟩
  have kp : ∀ b o, ¬ b = L → h3.get? b = some o → h'.get? b = some o := fun b o w e => (sb.2 b w).trans e
  have nt : ∀ b o, b = L → h3.get? b = some o → ¬ Imm o := fun b o w z => by
    subst w
    obtain ⟨o', es, ep, ho, hd, _⟩ := hm3
    rw [ho] at z; cases z; exact Imm.notDict hd
  have nl4 : (σ2.upd acc (.list out)) L = none := by rw [Store.upd_ne _ _ hne.symm]; exact nl2
  have S6 : St C (σ2.upd acc (.list out)) { s2 with heap := h', toks := s2.toks + 1 } := St.ow (s := { s2 with heap := h3, toks := s2.toks + 1 }) (ow := fun b => b = L) S5 kp nt (fun b w => w ▸ nl4) (fun b w => by
    subst w
    cases z : C.h₀.get? b with
    | none => rfl
    | some o => exact absurd (C.low _ _ z) (Nat.not_lt.mpr n2))
  refine wpAny_pure (wpAny_pure ⟨.next, _, _, q acc na2, .next, S6, F5.ow (ow := fun b => b = L) kp nt (fun b w z => ?_), ((e4.evoF F.own).trans e5).ow (ow := fun b => b = L) kp (fun b w => w ▸ fl)⟩)
  subst w
  obtain ⟨o, e⟩ := F.own_there z
  rw [e] at fl; cases fl
end

end Mine

set_option autoImplicit false
set_option linter.unusedVariables false
namespace Mine
open PySem PySem.W PySem.SeqAt

section
variable {C : Cx} {A : Around} {env : Env} {ρ : Rho} {σ : Store} {X : XP} {s : Shared}

mutual
/-- a value as plain data -/
inductive DR (C : Cx) (σ : Store) : V → PyData → Prop where
  | none : DR C σ .none .none
  | bool (b : Bool) : DR C σ (.bool b) (.bool b)
  | int (i : Int) : DR C σ (.int i) (.int i)
  | str (x : Str) : DR C σ (.str x) (.str x)
  | tup {xs : List V} {ds : List PyData} : DRs C σ xs ds → DR C σ (.tup xs) (.tuple ds)
  | list {l : Addr} {xs : List V} {ds : List PyData} : LstAt C σ l xs → DRs C σ xs ds → DR C σ (.ref l) (.list ds)
inductive DRs (C : Cx) (σ : Store) : List V → List PyData → Prop where
  | nil : DRs C σ [] []
  | cons {x : V} {xs : List V} {d : PyData} {ds : List PyData} : DR C σ x d → DRs C σ xs ds → DRs C σ (x :: xs) (d :: ds)
end

mutual
theorem DR.reads (S : St C σ s) : ∀ {x : V} {d : PyData} {v : Value}, DR C σ x d → VR s.heap v x → ∃ as, Reads s.heap v d as
  | _, _, _, .none, .none => ⟨_, .none⟩
  | _, _, _, .bool b, .bool _ => ⟨_, .bool b⟩
  | _, _, _, .int i, .int _ t => ⟨_, .int i t⟩
  | _, _, _, .str x, .str _ t => ⟨_, .str x t⟩
  | _, _, _, .tup ds, .tup e r => by
    obtain ⟨as, h⟩ := DRs.reads S ds r
    exact ⟨_, .tuple e rfl rfl h⟩
  | _, _, _, .list (l := l) hl ds, .ref _ => by
    obtain ⟨items, ⟨o, e, c, n, hd⟩, r⟩ := hl.raw S
    obtain ⟨as, h⟩ := DRs.reads S ds r
    exact ⟨_, .list e c hd h⟩
theorem DRs.reads (S : St C σ s) : ∀ {xs : List V} {ds : List PyData} {vs : List Value}, DRs C σ xs ds → VRs s.heap vs xs → ∃ as, ReadsAll s.heap vs ds as
  | _, _, _, .nil, .nil => ⟨_, .nil⟩
  | _, _, _, .cons a b, .cons r rs => by
    obtain ⟨as, h⟩ := DR.reads S a r
    obtain ⟨bs, h'⟩ := DRs.reads S b rs
    exact ⟨_, .cons h h'⟩
end

theorem CmpWP.eq {x y : V} {d e : PyData} {Q : V → Store → Prop} (hx : DR C σ x d) (hy : DR C σ y e) (h1 : d.canLay0 = true) (h2 : e.canLay0 = true) (hu : A.units + min d.depth e.depth < cLine) (h : Q (.bool (PyData.eqv d e)) σ) :
    CmpWP C A .Eq x y σ Q X := by
  intro s a b S ra rb
  obtain ⟨as, r1⟩ := hx.reads S ra
  obtain ⟨bs, r2⟩ := hy.reads S rb
  exact eqOverData _ _ _ _ _ _ _ _ _ _ _ _ r1 r2 h1 h2 hu (EP.pure S h (.bool _))
theorem CmpWP.ne {x y : V} {d e : PyData} {Q : V → Store → Prop} (hx : DR C σ x d) (hy : DR C σ y e) (h1 : d.canLay0 = true) (h2 : e.canLay0 = true) (hu : A.units + min d.depth e.depth < cLine) (h : Q (.bool (!PyData.eqv d e)) σ) :
    CmpWP C A .NotEq x y σ Q X := by
  intro s a b S ra rb
  obtain ⟨as, r1⟩ := hx.reads S ra
  obtain ⟨bs, r2⟩ := hy.reads S rb
  exact neOverData _ _ _ _ _ _ _ _ _ _ _ _ r1 r2 h1 h2 hu (EP.pure S h (.bool _))
theorem CmpWP.inL {x : V} {l : Addr} {xs : List V} {d : PyData} {ds : List PyData} {Q : V → Store → Prop} (hl : LstAt C σ l xs) (hx : DR C σ x d) (hy : DRs C σ xs ds) (h1 : d.canLay0 = true) (h2 : PyData.canLayAll0 ds = true) (hu : A.units + 1 + min (PyData.depthAll ds) d.depth < cLine)
    (h : Q (.bool (ds.any fun y => PyData.eqv y d)) σ) : CmpWP C A .In x (.ref l) σ Q X := by
  intro s a b S ra rb
  obtain ⟨as, r1⟩ := hx.reads S ra
  obtain ⟨bs, r2⟩ := (DR.list hl hy).reads S rb
  exact in_list_reads r2 r1 h2 h1 hu (EP.pure S h (.bool _))
theorem CmpWP.notInL {x : V} {l : Addr} {xs : List V} {d : PyData} {ds : List PyData} {Q : V → Store → Prop} (hl : LstAt C σ l xs) (hx : DR C σ x d) (hy : DRs C σ xs ds) (h1 : d.canLay0 = true) (h2 : PyData.canLayAll0 ds = true) (hu : A.units + 1 + min (PyData.depthAll ds) d.depth < cLine)
    (h : Q (.bool (!ds.any fun y => PyData.eqv y d)) σ) : CmpWP C A .NotIn x (.ref l) σ Q X := by
  intro s a b S ra rb
  obtain ⟨as, r1⟩ := hx.reads S ra
  obtain ⟨bs, r2⟩ := (DR.list hl hy).reads S rb
  exact notIn_list_reads r2 r1 h2 h1 hu (EP.pure S h (.bool _))
/- None, True, False -/
theorem CmpWP.isNone {x : V} {Q : V → Store → Prop} (h : Q (.bool (match x with | .none => true | _ => false)) σ) : CmpWP C A .Is x .none σ Q X := by
  intro s a b S ra rb
  cases rb
  refine is_none (EP.pure S h ?_)
  cases ra <;> exact .bool _
/- lists: truth, length, items -/
theorem TruWP.list {l : Addr} {xs : List V} {Q : Bool → Store → Prop} (hl : LstAt C σ l xs) (hz : xs.length < 2 ^ 62) (h : Q (!xs.isEmpty) σ) : TruWP C A (.ref l) σ Q X := by
  intro s a S r
  cases r
  obtain ⟨items, il, rl⟩ := hl.raw S
  have e := rl.length
  simp only [Array.length_toList] at e
  refine wpAny_truthy_list il (by omega) ⟨σ, ?_, S.toks _, .refl ..⟩
  have : items.isEmpty = xs.isEmpty := by
    unfold Array.isEmpty
    rw [e]
    cases xs <;> simp
  rw [this]; exact h

def BltWP (C : Cx) (A : Around) (id : String) (args : List V) (σ : Store) (Q : V → Store → Prop) (X : XP) : Prop := CallWP C A (.builtin id) args σ Q X

theorem BltWP.len_list {l : Addr} {xs : List V} {Q : V → Store → Prop} (hl : LstAt C σ l xs) (hz : xs.length < 2 ^ 62) (h : Q (.int xs.length) σ) : CallWP C A (.builtin "len") [.ref l] σ Q X := by
  intro s vs S r
  cases r with
  | cons r1 r2 =>
  cases r2; cases r1
  obtain ⟨items, il, rl⟩ := hl.raw S
  have e := rl.length
  simp only [Array.length_toList] at e
  refine Calls.call_len_list il (by omega) ⟨_, σ, h, ?_, S.toks _, .refl ..⟩
  rw [e]; exact .int _ _
end

end Mine

set_option autoImplicit false
set_option linter.unusedVariables false
namespace Mine
open PySem PySem.W PySem.SeqAt

/-- its items come by a built-in -/
def Gets (s : Shared) (a : Value) : Prop := ∃ T id, s.TypeIs a T ∧ typeLookup (.type T) "__getitem__" = pure (some (.builtin id))
def ItemWP (C : Cx) (A : Around) (o i : V) (σ : Store) (Q : V → Store → Prop) (X : XP) : Prop :=
  ∀ s a b, St C σ s → VR s.heap a o → VR s.heap b i → Gets s a ∧ wpAny C.M A (getItem a b) (EP C σ s.heap Q) X s

section
variable {C : Cx} {A : Around} {env : Env} {ρ : Rho} {σ : Store} {X : XP} {s : Shared}

theorem Gets.list {a : Addr} {items : Array Value} (h : s.heap.IsList a items) : Gets s (.ref a) := ⟨_, _, h.typeIs, PySem.slot_list_getitem.lookup⟩
theorem Gets.tup {a : Addr} {items : Array Value} {n : Nat} (h : s.heap.get? a = some (tupObj items n)) : Gets s (.ref a) := ⟨_, _, ⟨_, h, rfl⟩, PyProof.Rows.slot_tuple_getitem.lookup⟩
theorem getitem_mine {o i : Value} {slice value : Expr} {Q : Value → Shared → Prop} {E : XP} (g : Gets s o) (h : wpAny C.M A (getItem o i) Q E s) :
    wpAny C.M A (do let r ← subscripted slice (← getitemInPython o) o i; letTemporaryGo value o r; pure r) Q E s := by
  obtain ⟨T, id, hT, hl⟩ := g
  refine wpAny_bind ?_
  rw [getitemInPython_of_ne hT.not_modules]
  refine wpAny_bind (wpAny_specialOf hT hl (wpAny_pure ?_))
  refine wpAny_bind (wpAny_mono (Q := Q) ?_ (fun r s' q => wpAny_bind (wpAny_letTemporaryGo (wpAny_pure q))) fun _ _ z => z)
  unfold subscripted
  split
  · exact wpAny_operating h
  · rename_i e; cases e
  · exact wpAny_operating h

theorem Ev.sub {value slice : Expr} {pos : Pos} {Q : V → Store → Prop} (h : Ev C A env value ρ σ (fun o σ1 => Ev C A env slice ρ σ1 (fun i σ2 => ItemWP C A o i σ2 Q X) X) X) : Ev C A env (.Subscript value slice pos) ρ σ Q X := by
  intro s S F
  rw [eval_Subscript]
  refine wpAny_bind (wpAny_mono (h s S F) ?_ fun _ _ z => z)
  rintro o s1 ⟨x, σ1, h1, r1, S1, e1⟩
  refine wpAny_bind (wpAny_holding (wpAny_mono (h1 s1 S1 (F.evo e1)) ?_ fun _ _ z => z))
  rintro i s2 ⟨y, σ2, h2, r2, S2, e2⟩
  obtain ⟨g, w⟩ := h2 s2 o i S2 (r1.mono e2.tup) r2
  exact wpAny_bind (wpAny_standAt (wpAny_mono (getitem_mine g w) (fun _ _ z => (z.after e2).after e1) fun _ _ z => z))

theorem ItemWP.list {l : Addr} {xs : List V} {k : Int} {y : V} {Q : V → Store → Prop} (hl : LstAt C σ l xs) (h0 : 0 ≤ k) (hk : k < 2 ^ 63) (hx : xs[k.toNat]? = some y) (h : Q y σ) : ItemWP C A (.ref l) (.int k) σ Q X := by
  intro s a b S ra rb
  cases ra; cases rb
  obtain ⟨items, il, rl⟩ := hl.raw S
  obtain ⟨u, hu, ru⟩ := rl.get hx
  exact ⟨.list il, wpAny_getItem_list il h0 hk (by simpa using hu) (EP.pure S h ru)⟩
theorem ItemWP.tup {xs : List V} {k : Int} {j : Nat} {y : V} {Q : V → Store → Prop} (hlo : -(2 ^ 63) ≤ k) (hhi : k < 2 ^ 63) (hj : seqIndex? k xs.length = some j) (hx : xs[j]? = some y) (h : Q y σ) : ItemWP C A (.tup xs) (.int k) σ Q X := by
  intro s a b S ra rb
  cases rb
  cases ra with
  | @tup t items n _ ha hr =>
    obtain ⟨u, hu, ru⟩ := hr.get hx
    have e := hr.length
    simp only [Array.length_toList] at e
    exact ⟨.tup ha, PyProof.Rows.getItem_tuple (t := t) (items := items) ⟨_, ha, rfl, n, rfl⟩ hlo hhi (by rw [e]; exact hj) (by simpa using hu) (EP.pure S h ru)⟩
/- dicts -/
def iget (es : List (Int × V)) (x : Int) : Option V := (es.find? fun p => decide (p.1 = x)).map (·.2)
theorem ItemWP.id {d : Addr} {es : List (Int × V)} {k : Int} {y : V} {Q : V → Store → Prop} (hd : σ d = some (.id es)) (hx : iget es k = some y) (h : Q y σ) : ItemWP C A (.ref d) (.int k) σ Q X := by
  intro s a b S ra rb
  cases ra; cases rb
  rename_i t
  obtain ⟨kvs, D, pr⟩ := S.rep _ _ hd
  obtain ⟨u, hu, ru⟩ := pr.find (x := k) (y := y) hx
  refine ⟨⟨_, _, D.typeIs, PySem.slot_dict_getitem.lookup⟩, ?_⟩
  exact wpAny_getItem_of (knd := intKind C.prog C.w) (k := k) (by show (k == k) = true; simp) D.mapOf hu (EP.pureT S h ru)

/- slices -/
def Prt (C : Cx) (A : Around) (env : Env) (e : Option Expr) (ρ : Rho) (σ : Store) (Q : Option Int → Store → Prop) (X : XP) : Prop :=
  match e with
  | none => Q none σ
  | some e => Ev C A env e ρ σ (fun x σ1 => ∃ i, x = .int i ∧ Q (some i) σ1) X
theorem Prt.none {Q : Option Int → Store → Prop} (h : Q Option.none σ) : Prt C A env Option.none ρ σ Q X := h
theorem Prt.some {e : Expr} {Q : Option Int → Store → Prop} (h : Ev C A env e ρ σ (fun x σ1 => ∃ i, x = .int i ∧ Q (Option.some i) σ1) X) : Prt C A env (Option.some e) ρ σ Q X := h
theorem Prt.run {e : Option Expr} {Q : Option Int → Store → Prop} (h : Prt C A env e ρ σ Q X) (S : St C σ s) (F : Fm C σ s.heap env ρ) :
    wpAny C.M A (valueOrNone (evalOpt e env)) (fun v s' => ∃ k σ', Q k σ' ∧ IsPart v k ∧ St C σ' s' ∧ Evo σ s.heap σ' s'.heap) X s := by
  match e, h with
  | Option.none, h => exact wpAny_pure ⟨Option.none, σ, h, .none, S, .refl ..⟩
  | Option.some e, h =>
    refine wpAny_mono (h s S F) ?_ fun _ _ z => z
    rintro v s1 ⟨x, σ1, ⟨i, rfl, q⟩, r1, S1, e1⟩
    cases r1
    exact ⟨Option.some i, σ1, q, .int _ _, S1, e1⟩

def pySlice {α : Type} (xs : List α) (lo hi : Option Int) : List α :=
  (sliceRange (sliceBounds lo hi none xs.length).1 (sliceBounds lo hi none xs.length).2.1 (sliceBounds lo hi none xs.length).2.2).filterMap (xs[·]?)
theorem VRs.pick {h : Heap} {vs : List Value} {xs : List V} (r : VRs h vs xs) : ∀ ks : List Nat, VRs h (ks.filterMap (vs[·]?)) (ks.filterMap (xs[·]?))
  | [] => .nil
  | k :: ks => by
    have ih := VRs.pick r ks
    cases q : xs[k]? with
    | none =>
      have : vs[k]? = none := by
        have h1 := List.getElem?_eq_none_iff.mp q
        exact List.getElem?_eq_none_iff.mpr (by rw [r.length]; exact h1)
      simp only [List.filterMap_cons, q, this]; exact ih
    | some y =>
      obtain ⟨u, hu, ru⟩ := r.get q
      simp only [List.filterMap_cons, q, hu]; exact .cons ru ih
theorem slicePick_list (items : Array Value) (lo hi : Option Int) : (slicePick items lo hi none).toList = pySlice items.toList lo hi := by
  unfold slicePick pySlice
  simp
theorem Ev.sliceL {value : Expr} {lo hi : Option Expr} {p pos : Pos} {Q : V → Store → Prop}
    (h : Ev C A env value ρ σ (fun o σ1 => Prt C A env lo ρ σ1 (fun a σ2 => Prt C A env hi ρ σ2 (fun b σ3 => ∃ l xs, o = .ref l ∧ LstAt C σ3 l xs ∧ xs.length ≤ sizeLine ∧
      ∀ c, σ3 c = Option.none → Q (.ref c) (σ3.upd c (.list (pySlice xs a b)))) X) X) X) : Ev C A env (.Subscript value (.Slice lo hi Option.none p) pos) ρ σ Q X := by
  intro s S F
  rw [eval_Subscript]
  refine wpAny_bind (wpAny_mono (h s S F) ?_ fun _ _ z => z)
  rintro o s1 ⟨x, σ1, h1, r1, S1, e1⟩
  refine wpAny_bind (wpAny_holding ?_)
  rw [arm_eval_Slice]
  refine wpAny_bind (wpAny_mono (h1.run S1 (F.evo e1)) ?_ fun _ _ z => z)
  rintro vl s2 ⟨a, σ2, h2, p2, S2, e2⟩
  refine wpAny_bind (wpAny_holding (wpAny_mono (h2.run S2 ((F.evo e1).evo e2)) ?_ fun _ _ z => z))
  rintro vu s3 ⟨b, σ3, ⟨l, xs, rfl, hl, hz, q⟩, p3, S3, e3⟩
  cases r1
  refine wpAny_bind (wpAny_holding (wpAny_pure (wpAny_newObj_type ?_)))
  have S4 : St C σ3 { s3 with heap := s3.heap.push { cls := .type "slice", data := .fields #[vl, vu, .none] } } := S3.push
  obtain ⟨items, il, rl⟩ := hl.raw S4
  have e := rl.length
  simp only [Array.length_toList] at e
  refine wpAny_bind (wpAny_standAt (getitem_mine (.list il) (wpAny_getItem_list_slice (lo := a) (hi := b) (st := none) il ⟨_, Heap.get?_push_size _ rfl, rfl, rfl⟩ p2 p3 .none (by simp) ?_ (by rw [e]; exact hz))))
  obtain ⟨S5, e5⟩ := S4.new (t := s3.toks) (rep_list_push (C := C) (vs := (slicePick items a b none).toList) (xs := pySlice xs a b) (by rw [slicePick_list]; unfold pySlice; simp only [Array.length_toList, e]; exact rl.pick _))
  refine ⟨.ref _, _, q _ S4.fresh, .ref _, by simpa using S5, ?_⟩
  have := (((e1.trans e2).trans e3).trans .push).trans e5
  simpa using this
end

end Mine

set_option autoImplicit false
set_option linter.unusedVariables false
namespace Mine
open PySem PySem.W PySem.SeqAt

/-- a built-in type's value without a dict of its own -/
def TyV (C : Cx) (σ : Store) (x : V) (T : String) : Prop := ∀ s v, St C σ s → VR s.heap v x → s.TypeIs v T ∧ ∀ a, v = .ref a → ∃ ob, s.heap.get? a = some ob ∧ ob.dict = none

section
variable {C : Cx} {A : Around} {env : Env} {ρ : Rho} {σ : Store} {X : XP} {s : Shared}

theorem TyV.list {l : Addr} {xs : List V} (h : σ l = some (.list xs)) : TyV C σ (.ref l) "list" := by
  intro s v S r
  cases r
  obtain ⟨items, ⟨n, e⟩, _⟩ := S.rep _ _ h
  exact ⟨⟨_, e, rfl⟩, fun a q => by cases q; exact ⟨_, e, rfl⟩⟩
theorem TyV.id {l : Addr} {xs : List (Int × V)} (h : σ l = some (.id xs)) : TyV C σ (.ref l) "dict" := by
  intro s v S r
  cases r
  obtain ⟨kvs, D, _⟩ := S.rep _ _ h
  exact ⟨D.typeIs, D.mapOf.noDict⟩
/-- a method of a built-in type -/
theorem Ev.bmeth {o : Expr} {name : Str} {apos pos : Pos} {args : List Expr} {T id : String} {Q : V → Store → Prop} (pa : PlainAttrs T) (slot : Slot T name id) (hty : typeOf (.builtin id) = Pure.pure (.type "method_descriptor"))
    (h : Ev C A env o ρ σ (fun x σ1 => TyV C σ1 x T ∧ Ags C A env pos args ρ σ1 (fun xs σ2 => CallWP C A (.builtin id) (x :: xs) σ2 Q X) X) X)
    (hbase : attributeBase o name env (eval o env) = eval o env := by kernel_rfl)
    (hfew : ((backTo pos (starEach args env)).all (fun x => !x.1) && (backToKw pos (keywordEach [] env)).all (fun x => x.1.isSome)
      && decide (args.length + ([] : List Keyword).length + (if ([] : List Keyword).isEmpty then 0 else 1) < 30)) = true := by kernel_rfl)
    (hline : (apos.endLine == pos.line) = true := by kernel_rfl) (hst : (backTo pos (starEach args env)).any (·.1) = false := by kernel_rfl) : Ev C A env (.Call (.Attribute o name apos) args [] pos) ρ σ Q X := by
  intro s S F
  refine wpAny_Call_method hbase hfew hline pa slot hty (wpAny_mono (h s S F) ?_ fun _ _ z => z)
  rintro ov s1 ⟨x, σ1, ⟨t, q⟩, r1, S1, e1⟩
  obtain ⟨t1, t2⟩ := t s1 ov S1 r1
  exact ⟨t1, t2, wpAny_mono (callWith_mine (first := [ov]) (fx := [x]) Kp.blt S1 (F.evo e1) (.cons r1 .nil) q hst) (fun _ _ z => z.after e1) fun _ _ z => z⟩

/- one list changed -/
theorem upd_list {l : Addr} {xs : List V} {items : Array Value} {n : Nat} {f : Array Value → Array Value} {ys : List V} (S : St C σ s) (hl : σ l = some (.list xs)) (e : s.heap.get? l = some { cls := .type "list", data := .seq items n })
    (r : VRs s.heap (f items).toList ys) : St C (σ.upd l (.list ys)) { s with heap := s.heap.update l (Obj.mapSeq f) } ∧ Evo σ s.heap (σ.upd l (.list ys)) (s.heap.update l (Obj.mapSeq f)) := by
  have sb : Heap.SameBut l s.heap (s.heap.update l (Obj.mapSeq f)) := Heap.SameBut.update ..
  have tk : TupKeep s.heap (s.heap.update l (Obj.mapSeq f)) := tupKeep_sameBut sb (S.rep _ _ hl).notTup
  have e' : ∃ n', (s.heap.update l (Obj.mapSeq f)).get? l = some { cls := .type "list", data := .seq (f items) n' } := by
    refine ⟨if (f items).size == items.size then n else n + 1, ?_⟩
    rw [Heap.get?_update_self _ e (by rfl)]; rfl
  exact S.set (t := s.toks) hl sb ⟨f items, e', r.mono tk⟩

theorem CallWP.append {l : Addr} {xs : List V} {x : V} {Q : V → Store → Prop} (hl : σ l = some (.list xs)) (hz : xs.length ≤ sizeLine) (h : Q .none (σ.upd l (.list (xs ++ [x])))) : CallWP C A (.builtin "list.append") [.ref l, x] σ Q X := by
  intro s vs S r
  cases r with
  | cons r1 r2 =>
  cases r2 with
  | cons r2 r3 =>
  cases r3; cases r1
  obtain ⟨items, pl, rl⟩ := S.rep _ _ hl
  have e := rl.length
  simp only [Array.length_toList] at e
  refine wpAny_list_append_plain pl (fun h' pl' sb => ?_) (by omega)
  have tk : TupKeep s.heap h' := tupKeep_sameBut sb (S.rep _ _ hl).notTup
  obtain ⟨S', e'⟩ := S.set (t := s.toks) (o' := .list (xs ++ [x])) hl sb ⟨_, pl', by simp only [Array.toList_push]; exact (rl.mono tk).append (.cons (r2.mono tk) .nil)⟩
  exact ⟨.none, _, h, .none, S', e'⟩

theorem VRs.erase {h : Heap} : ∀ {vs : List Value} {xs : List V}, VRs h vs xs → ∀ k : Nat, VRs h (vs.eraseIdx k) (xs.eraseIdx k)
  | _, _, .nil, _ => .nil
  | _, _, .cons a b, 0 => b
  | _, _, .cons a b, k + 1 => .cons a (VRs.erase b k)
theorem CallWP.pop_at {l : Addr} {xs : List V} {k : Int} {j : Nat} {y : V} {Q : V → Store → Prop} (hl : σ l = some (.list xs)) (hk : Builtin.List.listFitsIndex k = true) (hj : seqIndex? k xs.length = some j) (hy : xs[j]? = some y) (hz : xs.length ≤ sizeLine)
    (h : Q y (σ.upd l (.list (xs.eraseIdx j)))) : CallWP C A (.builtin "list.pop") [.ref l, .int k] σ Q X := by
  intro s vs S r
  cases r with
  | cons r1 r2 =>
  cases r2 with
  | cons r2 r3 =>
  cases r3; cases r1; cases r2
  rename_i t
  obtain ⟨items, ⟨n, e⟩, rl⟩ := S.rep _ _ hl
  have el := rl.length
  simp only [Array.length_toList] at el
  obtain ⟨u, hu, ru⟩ := rl.get hy
  have hne : items.isEmpty = false := by
    have : j < xs.length := (List.getElem?_eq_some_iff.mp hy).1
    have h0 : items.size ≠ 0 := by omega
    simpa [Array.isEmpty] using h0
  refine wpAny_call_entry F.slot_list_pop ⟨_, e, rfl⟩ F.entry_list_pop ?_ (F.args_list_pop_2 _ _)
  show wpAny _ _ (do
    if !Builtin.List.listFitsIndex k then rule "list.pop.index-too-large"; raiseError "OverflowError" "Python int too large to convert to C ssize_t"
    let xs ← Builtin.List.listItems (.ref l)
    if xs.isEmpty then rule "list.pop.empty"; raiseError "IndexError" "pop from empty list"
    match (seqIndex? k xs.size).bind fun k => xs[k]?.map (k, ·) with
    | some (k, x) => Builtin.List.listUpdate (.ref l) (·.eraseIdxIfInBounds k); ret x
    | none => rule "list.pop.out-of-range"; raiseError "IndexError" "pop index out of range") _ _ s
  rw [hk]
  refine wpAny_bind (wpAny_listItems e rfl ?_)
  have hu' : items[j]? = some u := by simpa using hu
  simp only [hne, el, hj, Option.bind_some, hu', Option.map_some, Bool.false_eq_true, if_false]
  refine wpAny_bind (wpAny_updateSeq e rfl (wpAny_pure ⟨_, rfl, ?_⟩) (by omega) (by show (items.eraseIdxIfInBounds j).size ≤ _; unfold Array.eraseIdxIfInBounds; split <;> (try simp) <;> omega))
  obtain ⟨S', e'⟩ := upd_list (f := fun x => x.eraseIdxIfInBounds j) S hl e (ys := xs.eraseIdx j) (by
    have : (items.eraseIdxIfInBounds j).toList = items.toList.eraseIdx j := by
      have hj' : j < items.size := by rw [el]; exact (List.getElem?_eq_some_iff.mp hy).1
      simp [Array.eraseIdxIfInBounds, hj', Array.toList_eraseIdx]
    rw [this]; exact rl.erase j)
  exact ⟨y, _, h, ru.mono e'.tup, S', e'⟩

/- remove -/
theorem remove_loop_mine {l : Addr} {items : Array Value} {n j : Nat} {x : Value} (hz : items.size ≤ sizeLine) (hj : j < items.size) : ∀ (k i : Nat) (R : Result → Shared → Prop), j - i = k → i ≤ j → s.heap.get? l = some { cls := .type "list", data := .seq items n } →
    (∀ m (hm : m < items.size), i ≤ m → m < j → EqAt A.in1 s items[m] x false) → EqAt A.in1 s items[j] x true → R (.ok (.ret .none)) { s with heap := s.heap.update l (Obj.mapSeq fun xs => xs.eraseIdxIfInBounds j) } →
    codeAny C.M A (.builtin "list.remove.loop" ⟨[.ref l, x, rawInt i], []⟩) R s := by
  intro k
  induction k with
  | zero =>
    intro i R hk hij e hno hit hR
    have : i = j := by omega
    subst this
    refine codeAny_builtin MeetsSeq.entry_remove_loop ?_
    rw [Around.under_plainId MeetsSeq.plain_remove_loop _]
    refine wpAny_bind (wpAny_listItems e rfl ?_)
    have hi : items[((i : Nat) : Int).toNat]? = some items[i] := by simp [hj]
    rw [hi]
    refine wpAny_bind (hit C.prog C.w _ _ ?_)
    refine wpAny_bind (wpAny_updateSeq e rfl (wpAny_pure hR) hz ?_)
    show (items.eraseIdxIfInBounds i).size ≤ _
    unfold Array.eraseIdxIfInBounds
    split <;> (try simp) <;> omega
  | succ k ih =>
    intro i R hk hij e hno hit hR
    have hlt : i < items.size := by omega
    refine codeAny_builtin MeetsSeq.entry_remove_loop ?_
    rw [Around.under_plainId MeetsSeq.plain_remove_loop _]
    refine wpAny_bind (wpAny_listItems e rfl ?_)
    have hi : items[((i : Nat) : Int).toNat]? = some items[i] := by simp [hlt]
    rw [hi]
    refine wpAny_bind (hno i hlt (Nat.le_refl _) (by omega) C.prog C.w _ _ ?_)
    refine wpAny_pure ⟨plainId_quiet MeetsSeq.plain_remove_loop _, ?_⟩
    exact ih (i + 1) R (by omega) (by omega) e (fun m hm h1 h2 => hno m hm (by omega) h2) hit hR

theorem DRs.get {xs : List V} {ds : List PyData} : DRs C σ xs ds → ∀ {i : Nat} {x : V}, xs[i]? = some x → ∃ d, ds[i]? = some d ∧ DR C σ x d
  | .nil, _, _, e => by simp at e
  | .cons a b, 0, _, e => by simp at e; subst e; exact ⟨_, rfl, a⟩
  | .cons a b, i + 1, _, e => by
    obtain ⟨u, h1, h2⟩ := DRs.get b (i := i) (by simpa using e)
    exact ⟨u, by simpa using h1, h2⟩
theorem DRs.length {xs : List V} {ds : List PyData} : DRs C σ xs ds → xs.length = ds.length
  | .nil => rfl
  | .cons _ b => congrArg (· + 1) (DRs.length b)

theorem canLay_get {ds : List PyData} {i : Nat} {d : PyData} (h : PyData.canLayAll0 ds = true) (e : ds[i]? = some d) : d.canLay0 = true :=
  PyData.canLay0_of_mem ds d h (List.mem_of_getElem? e)
theorem depth_get : ∀ {ds : List PyData} {i : Nat} {d : PyData}, ds[i]? = some d → d.depth ≤ PyData.depthAll ds
  | [], _, _, e => by simp at e
  | _ :: ds, 0, _, e => by simp at e; subst e; exact Nat.le_max_left _ _
  | _ :: ds, i + 1, _, e => Nat.le_trans (depth_get (ds := ds) (i := i) (by simpa using e)) (Nat.le_max_right _ _)

theorem CallWP.remove {l : Addr} {xs : List V} {x : V} {d : PyData} {ds : List PyData} {j : Nat} {Q : V → Store → Prop} (hl : σ l = some (.list xs)) (hx : DR C σ x d) (hy : DRs C σ xs ds) (h1 : d.canLay0 = true) (h2 : PyData.canLayAll0 ds = true)
    (hu : A.units + 1 + min (PyData.depthAll ds) d.depth < cLine) (hz : xs.length ≤ sizeLine) (hj : ds.findIdx? (fun y => PyData.eqv y d) = some j) (h : Q .none (σ.upd l (.list (xs.eraseIdx j)))) : CallWP C A (.builtin "list.remove") [.ref l, x] σ Q X := by
  intro s vs S r
  cases r with
  | cons r1 r2 =>
  cases r2 with
  | @cons v _ _ _ r2 r3 =>
  cases r3; cases r1
  obtain ⟨items, ⟨n, e⟩, rl⟩ := S.rep _ _ hl
  have el := rl.length
  simp only [Array.length_toList] at el
  obtain ⟨hjl, hjt, hjf⟩ := List.findIdx?_eq_some_iff_getElem.mp hj
  have hjs : j < items.size := by rw [el, hy.length]; exact hjl
  obtain ⟨as, rx⟩ := hx.reads S r2
  have at_ : ∀ m (hm : m < items.size), ∃ dm, ds[m]? = some dm ∧ EqAt A.in1 s items[m] v (PyData.eqv dm d) := fun m hm => by
    obtain ⟨y, hy1, hy2⟩ := rl.get' (i := m) (u := items[m]) (by simp [hm])
    obtain ⟨dm, hd1, hd2⟩ := hy.get hy1
    obtain ⟨bs, rd⟩ := hd2.reads S hy2
    refine ⟨dm, hd1, fun prog w E Q hq => eqBoolOverData prog w _ E s _ _ dm d _ _ Q rd rx (canLay_get h2 hd1) h1 ?_ hq⟩
    have := depth_get hd1
    show A.units + 1 + _ < _
    omega
  refine wpAny_call (codeAny_call_builtin F.slot_list_remove.plain F.entry_list_remove (F.slot_list_remove.check _ _ _ _ _ _ _ _ ⟨_, e, rfl⟩ (F.args_list_remove_2 _ _) ?_))
  refine wpAny_pure ⟨plainId_quiet MeetsSeq.plain_remove_loop _, ?_⟩
  refine remove_loop_mine (j := j) (by omega) hjs _ 0 _ rfl (Nat.zero_le _) e (fun m hm _ hmj => ?_) ?_ ?_
  · obtain ⟨dm, hd1, hd2⟩ := at_ m hm
    have hf := hjf m hmj
    have : ds[m]? = some ds[m] := by simp
    rw [this] at hd1; cases hd1
    rw [Bool.not_eq_true] at hf
    rw [hf] at hd2; exact hd2
  · obtain ⟨dm, hd1, hd2⟩ := at_ j hjs
    have : ds[j]? = some ds[j] := by simp
    rw [this] at hd1; cases hd1
    rw [hjt] at hd2; exact hd2
  · obtain ⟨S', e'⟩ := upd_list (f := fun x => x.eraseIdxIfInBounds j) S hl e (ys := xs.eraseIdx j) (by
      have : (items.eraseIdxIfInBounds j).toList = items.toList.eraseIdx j := by
        simp [Array.eraseIdxIfInBounds, hjs, Array.toList_eraseIdx]
      rw [this]; exact rl.erase j)
    exact ⟨.none, _, h, .none, S', e'⟩

theorem CallWP.clear {l : Addr} {xs : List V} {Q : V → Store → Prop} (hl : σ l = some (.list xs)) (hz : xs.length ≤ sizeLine) (h : Q .none (σ.upd l (.list []))) : CallWP C A (.builtin "list.clear") [.ref l] σ Q X := by
  intro s vs S r
  cases r with
  | cons r1 r2 =>
  cases r2; cases r1
  obtain ⟨items, ⟨n, e⟩, rl⟩ := S.rep _ _ hl
  have el := rl.length
  simp only [Array.length_toList] at el
  refine wpAny_call_entry F.slot_list_clear ⟨_, e, rfl⟩ F.entry_list_clear ?_ (F.args_list_clear_1 _)
  show wpAny _ _ (do let old ← Builtin.List.listItems (.ref l); Builtin.List.listUpdate (.ref l) fun _ => #[]; letGo old.toList.reverse; ret .none) _ _ s
  refine wpAny_bind (wpAny_listItems e rfl (wpAny_bind (wpAny_updateSeq e rfl (wpAny_bind (wpAny_letGo (wpAny_pure ⟨_, rfl, ?_⟩))) (by omega) (by simp))))
  obtain ⟨S', e'⟩ := upd_list (f := fun _ => #[]) S hl e (ys := []) .nil
  exact ⟨.none, _, h, .none, S', e'⟩
end

end Mine

set_option autoImplicit false
set_option linter.unusedVariables false
namespace Mine
open PySem PySem.W PySem.SeqAt

inductive Ty where
  | none | bool | int | str | tup | list | dict
def Ty.name : Ty → String
  | .none => "NoneType" | .bool => "bool" | .int => "int" | .str => "str" | .tup => "tuple" | .list => "list" | .dict => "dict"
inductive HasTy (C : Cx) (σ : Store) : V → Ty → Prop
  | none : HasTy C σ .none .none
  | bool (b : Bool) : HasTy C σ (.bool b) .bool
  | int (i : Int) : HasTy C σ (.int i) .int
  | str (x : Str) : HasTy C σ (.str x) .str
  | tup (xs : List V) : HasTy C σ (.tup xs) .tup
  | list {l : Addr} {xs : List V} : LstAt C σ l xs → HasTy C σ (.ref l) .list
  | sd {l : Addr} {xs : List (Str × V)} : σ l = some (.sd xs) → HasTy C σ (.ref l) .dict
  | id {l : Addr} {xs : List (Int × V)} : σ l = some (.id xs) → HasTy C σ (.ref l) .dict
def isiB : Ty → String → Bool
  | .bool, "int" => true
  | .bool, "bool" => true
  | .int, "int" => true
  | .str, "str" => true
  | .tup, "tuple" => true
  | .list, "list" => true
  | _, _ => false

section
variable {C : Cx} {A : Around} {env : Env} {ρ : Rho} {σ : Store} {X : XP} {s : Shared}

/-- how the heap bears a value's type -/
def Bears (s : Shared) (v : Value) : Ty → Prop
  | .none => v = .none
  | .bool => ∃ b, v = .bool b
  | .int => ∃ i t, v = .int i t
  | .str => ∃ x t, v = .str x t
  | .tup => ∃ a o, v = .ref a ∧ s.heap.get? a = some o ∧ o.cls = .type "tuple"
  | .list => ∃ a o, v = .ref a ∧ s.heap.get? a = some o ∧ o.cls = .type "list"
  | .dict => ∃ a o, v = .ref a ∧ s.heap.get? a = some o ∧ o.cls = .type "dict"
theorem HasTy.bears {x : V} {t : Ty} (h : HasTy C σ x t) {v : Value} (S : St C σ s) (r : VR s.heap v x) : Bears s v t := by
  cases h with
  | none => cases r; rfl
  | bool b => cases r; exact ⟨_, rfl⟩
  | int i => cases r; exact ⟨_, _, rfl⟩
  | str i => cases r; exact ⟨_, _, rfl⟩
  | tup xs => cases r with | tup e _ => exact ⟨_, _, rfl, e, rfl⟩
  | list hl =>
    cases r
    obtain ⟨items, ⟨o, e, c, _⟩, _⟩ := hl.raw S
    exact ⟨_, _, rfl, e, c⟩
  | sd hl =>
    cases r
    obtain ⟨kvs, D, _⟩ := S.rep _ _ hl
    obtain ⟨o, e, c⟩ := D.typeIs (s := s)
    exact ⟨_, _, rfl, e, c⟩
  | id hl =>
    cases r
    obtain ⟨kvs, D, _⟩ := S.rep _ _ hl
    obtain ⟨o, e, c⟩ := D.typeIs (s := s)
    exact ⟨_, _, rfl, e, c⟩

theorem isi_raw {v : Value} {t : Ty} {U : String} {Q : Value → Shared → Prop} {E : XP} (b : Bears s v t) (hU : U = "int" ∨ U = "bool" ∨ U = "str" ∨ U = "list" ∨ U = "tuple") (h : ∀ tk, Q (.bool (isiB t U)) { s with toks := tk }) :
    wpAny C.M A (call (.builtin "isinstance") [v, .type U]) Q E s := by
  rcases hU with rfl | rfl | rfl | rfl | rfl
  · cases t with
    | none => subst b; exact call_isinstance (isinstance_false_none (by decide +kernel) F.isi_meta_int F.sub_NoneType_int) (h _)
    | bool => obtain ⟨_, rfl⟩ := b; exact call_isinstance (isinstance_true (Tx := "bool") F.isi_meta_int F.sub_bool_int) ⟨rfl, h s.toks⟩
    | int => obtain ⟨_, _, rfl⟩ := b; exact call_isinstance (isinstance_true (Tx := "int") F.isi_meta_int F.sub_int_int) ⟨rfl, h s.toks⟩
    | str => obtain ⟨_, _, rfl⟩ := b; exact call_isinstance (isinstance_false_str (by decide +kernel) F.isi_meta_int F.sub_str_int) (h _)
    | tup => obtain ⟨a, o, rfl, e, hc⟩ := b; exact call_isinstance (isinstance_false_tuple (by decide +kernel) F.isi_meta_int F.sub_tuple_int) ⟨⟨o, e, hc⟩, h _⟩
    | list => obtain ⟨a, o, rfl, e, hc⟩ := b; exact call_isinstance (isinstance_false_list (by decide +kernel) F.isi_meta_int F.sub_list_int) ⟨⟨o, e, hc⟩, h _⟩
    | dict => obtain ⟨a, o, rfl, e, hc⟩ := b; exact call_isinstance (isinstance_false_dict (by decide +kernel) F.isi_meta_int F.sub_dict_int) ⟨⟨o, e, hc⟩, h _⟩
  · cases t with
    | none => subst b; exact call_isinstance (isinstance_false_none (by decide +kernel) F.isi_meta_bool F.sub_NoneType_bool) (h _)
    | bool => obtain ⟨_, rfl⟩ := b; exact call_isinstance (isinstance_true (Tx := "bool") F.isi_meta_bool F.sub_bool_bool) ⟨rfl, h s.toks⟩
    | int => obtain ⟨_, _, rfl⟩ := b; exact call_isinstance (isinstance_false_int (by decide +kernel) F.isi_meta_bool F.sub_int_bool) (h _)
    | str => obtain ⟨_, _, rfl⟩ := b; exact call_isinstance (isinstance_false_str (by decide +kernel) F.isi_meta_bool F.sub_str_bool) (h _)
    | tup => obtain ⟨a, o, rfl, e, hc⟩ := b; exact call_isinstance (isinstance_false_tuple (by decide +kernel) F.isi_meta_bool F.sub_tuple_bool) ⟨⟨o, e, hc⟩, h _⟩
    | list => obtain ⟨a, o, rfl, e, hc⟩ := b; exact call_isinstance (isinstance_false_list (by decide +kernel) F.isi_meta_bool F.sub_list_bool) ⟨⟨o, e, hc⟩, h _⟩
    | dict => obtain ⟨a, o, rfl, e, hc⟩ := b; exact call_isinstance (isinstance_false_dict (by decide +kernel) F.isi_meta_bool F.sub_dict_bool) ⟨⟨o, e, hc⟩, h _⟩
  · cases t with
    | none => subst b; exact call_isinstance (isinstance_false_none (by decide +kernel) F.isi_meta_str F.sub_NoneType_str) (h _)
    | bool => obtain ⟨_, rfl⟩ := b; exact call_isinstance (isinstance_false_bool (by decide +kernel) F.isi_meta_str F.sub_bool_str) (h _)
    | int => obtain ⟨_, _, rfl⟩ := b; exact call_isinstance (isinstance_false_int (by decide +kernel) F.isi_meta_str F.sub_int_str) (h _)
    | str => obtain ⟨_, _, rfl⟩ := b; exact call_isinstance (isinstance_true (Tx := "str") F.isi_meta_str F.sub_str_str) ⟨rfl, h s.toks⟩
    | tup => obtain ⟨a, o, rfl, e, hc⟩ := b; exact call_isinstance (isinstance_false_tuple (by decide +kernel) F.isi_meta_str F.sub_tuple_str) ⟨⟨o, e, hc⟩, h _⟩
    | list => obtain ⟨a, o, rfl, e, hc⟩ := b; exact call_isinstance (isinstance_false_list (by decide +kernel) F.isi_meta_str F.sub_list_str) ⟨⟨o, e, hc⟩, h _⟩
    | dict => obtain ⟨a, o, rfl, e, hc⟩ := b; exact call_isinstance (isinstance_false_dict (by decide +kernel) F.isi_meta_str F.sub_dict_str) ⟨⟨o, e, hc⟩, h _⟩
  · cases t with
    | none => subst b; exact call_isinstance (isinstance_false_none (by decide +kernel) F.isi_meta_list F.sub_NoneType_list) (h _)
    | bool => obtain ⟨_, rfl⟩ := b; exact call_isinstance (isinstance_false_bool (by decide +kernel) F.isi_meta_list F.sub_bool_list) (h _)
    | int => obtain ⟨_, _, rfl⟩ := b; exact call_isinstance (isinstance_false_int (by decide +kernel) F.isi_meta_list F.sub_int_list) (h _)
    | str => obtain ⟨_, _, rfl⟩ := b; exact call_isinstance (isinstance_false_str (by decide +kernel) F.isi_meta_list F.sub_str_list) (h _)
    | tup => obtain ⟨a, o, rfl, e, hc⟩ := b; exact call_isinstance (isinstance_false_tuple (by decide +kernel) F.isi_meta_list F.sub_tuple_list) ⟨⟨o, e, hc⟩, h _⟩
    | list => obtain ⟨a, o, rfl, e, hc⟩ := b; exact call_isinstance (isinstance_true (Tx := "list") F.isi_meta_list F.sub_list_list) ⟨⟨o, e, hc⟩, h s.toks⟩
    | dict => obtain ⟨a, o, rfl, e, hc⟩ := b; exact call_isinstance (isinstance_false_dict (by decide +kernel) F.isi_meta_list F.sub_dict_list) ⟨⟨o, e, hc⟩, h _⟩
  · cases t with
    | none => subst b; exact call_isinstance (isinstance_false_none (by decide +kernel) F.isi_meta_tuple F.sub_NoneType_tuple) (h _)
    | bool => obtain ⟨_, rfl⟩ := b; exact call_isinstance (isinstance_false_bool (by decide +kernel) F.isi_meta_tuple F.sub_bool_tuple) (h _)
    | int => obtain ⟨_, _, rfl⟩ := b; exact call_isinstance (isinstance_false_int (by decide +kernel) F.isi_meta_tuple F.sub_int_tuple) (h _)
    | str => obtain ⟨_, _, rfl⟩ := b; exact call_isinstance (isinstance_false_str (by decide +kernel) F.isi_meta_tuple F.sub_str_tuple) (h _)
    | tup => obtain ⟨a, o, rfl, e, hc⟩ := b; exact call_isinstance (isinstance_true (Tx := "tuple") F.isi_meta_tuple F.sub_tuple_tuple) ⟨⟨o, e, hc⟩, h s.toks⟩
    | list => obtain ⟨a, o, rfl, e, hc⟩ := b; exact call_isinstance (isinstance_false_list (by decide +kernel) F.isi_meta_tuple F.sub_list_tuple) ⟨⟨o, e, hc⟩, h _⟩
    | dict => obtain ⟨a, o, rfl, e, hc⟩ := b; exact call_isinstance (isinstance_false_dict (by decide +kernel) F.isi_meta_tuple F.sub_dict_tuple) ⟨⟨o, e, hc⟩, h _⟩

theorem CallWP.isi {x : V} {t : Ty} {U : String} {Q : V → Store → Prop} (ht : HasTy C σ x t) (hU : U = "int" ∨ U = "bool" ∨ U = "str" ∨ U = "list" ∨ U = "tuple") (h : Q (.bool (isiB t U)) σ) : CallWP C A (.builtin "isinstance") [x, .typ U] σ Q X := by
  intro s vs S r
  cases r with
  | cons r1 r2 =>
  cases r2 with
  | cons r2 r3 =>
  cases r3; cases r2
  exact isi_raw (ht.bears S r1) hU fun tk => EP.pureT S h (.bool _)

/- list(), tuple() -/
theorem CallWP.listOf {l : Addr} {xs : List V} {Q : V → Store → Prop} (hl : LstAt C σ l xs) (hz : xs.length ≤ sizeLine) (h : ∀ a, σ a = Option.none → Q (.ref a) (σ.upd a (.list xs))) : CallWP C A (.type "list") [.ref l] σ Q X := by
  intro s vs S r
  cases r with
  | cons r1 r2 =>
  cases r2; cases r1
  obtain ⟨items, ⟨o, e, c, n, hd⟩, rl⟩ := hl.raw S
  have el := rl.length
  simp only [Array.length_toList] at el
  refine call_list_seq l (.inl rfl) e c hd (fun h' c' kp e' => ?_) (by omega)
  have S' : St C σ { s with heap := h', toks := s.toks } := S.ext kp
  obtain ⟨S2, e2⟩ := S'.adopt (a := s.heap.objs.size) (o := .list xs) (σ0 := σ) (h0 := s.heap) ⟨items, ⟨c', e'⟩, rl.mono fun _ _ _ q => kp _ _ q⟩ S.size (.ext kp) (get?_fresh _)
  exact ⟨.ref _, _, h _ S.fresh, .ref _, S2, e2⟩
/- len, abs -/
theorem CallWP.len_tup {xs : List V} {Q : V → Store → Prop} (hz : xs.length < 2 ^ 62) (h : Q (.int xs.length) σ) : CallWP C A (.builtin "len") [.tup xs] σ Q X := by
  intro s vs S r
  cases r with
  | cons r1 r2 =>
  cases r2
  cases r1 with
  | @tup a items n _ e rl =>
  have el := rl.length
  simp only [Array.length_toList] at el
  refine PyProof.Rows.len_tuple (t := a) (items := items) ⟨_, e, rfl, n, rfl⟩ (by omega) ⟨_, σ, h, ?_, S.toks _, .refl ..⟩
  rw [el]; exact .int _ _
end

end Mine

set_option autoImplicit false
set_option linter.unusedVariables false
namespace Mine
open PySem PySem.W PySem.SeqAt

section
variable {C : Cx} {A : Around} {env : Env} {ρ : Rho} {σ : Store} {X : XP} {s : Shared}

theorem BinWP.cat {l b : Addr} {xs ys : List V} {Q : V → Store → Prop} (hl : LstAt C σ l xs) (hb : LstAt C σ b ys) (hz : xs.length + ys.length ≤ sizeLine) (h : ∀ a, σ a = none → Q (.ref a) (σ.upd a (.list (xs ++ ys)))) :
    BinWP C A .Add (.ref l) (.ref b) σ Q X := by
  intro s u v S r1 r2
  cases r1; cases r2
  obtain ⟨items, ⟨⟨c1, d1, t1, s1⟩, ho, hc, n, hd⟩, rl⟩ := hl.raw S
  obtain ⟨items2, ⟨⟨c2, d2, t2, s2⟩, ho2, hc2, n2, hd2⟩, rl2⟩ := hb.raw S
  have el := rl.length
  have el2 := rl2.length
  simp only [Array.length_toList] at el el2
  dsimp only at hc hd hc2 hd2
  subst hc hd hc2 hd2
  refine concat_meets ⟨_, ho, rfl⟩ ⟨_, ho2, rfl⟩ noFill_list_add seq_list_add PySem.F.slot_list_add PySem.F.entry_list_add (PySem.F.args_list_add_2 _ _) (PyProof.Rows.list_addW l b items items2 n n2 d1 d2 s1 s2 (by omega)) ⟨ho, ho2, ?_⟩
  obtain ⟨S2, e2⟩ := S.new (t := s.toks) (x := { cls := .type "list", data := .seq (items ++ items2) }) (o := .list (xs ++ ys)) ⟨_, ⟨0, Heap.get?_push_size _ rfl⟩, by simp only [Array.toList_append]; exact (rl.append rl2).push⟩
  exact ⟨.ref _, _, h _ S.fresh, .ref _, S2, e2⟩

/- texts -/
/- dicts -/
theorem Ev.dict0i {pos : Pos} {Q : V → Store → Prop} (h : ∀ a, σ a = none → Q (.ref a) (σ.upd a (.id []))) : Ev C A env (.Dict [] [] pos) ρ σ Q X := by
  intro s S F
  refine wpAny_Dict_empty ?_
  obtain ⟨S2, e2⟩ := S.new (t := s.toks) (x := { cls := .type "dict", data := .dict #[] }) (o := .id []) ⟨[], Heap.DictOf.new _, .nil⟩
  exact ⟨.ref _, _, h _ S.fresh, .ref _, S2, e2⟩

/-- the store of an item -/
def SetWP (C : Cx) (A : Around) (o i y : V) (σ : Store) (Q : Store → Prop) (X : XP) : Prop :=
  ∀ s a b v, St C σ s → VR s.heap a o → VR s.heap b i → VR s.heap v y → wpAny C.M A (setItem a b v) (fun _ s' => ∃ σ', Q σ' ∧ St C σ' s' ∧ Evo σ s.heap σ' s'.heap) X s
theorem assign_sub (o i : Expr) (pos : Pos) (env : Env) (v : Value) : assign (.Subscript o i pos) env v = (do
    let ov ← holding [v] (eval o env)
    let iv ← holding [v, ov] (eval i env)
    standAt pos
    holding [v, ov, iv] (setItem ov iv v)
    release (match i with | .Slice _ _ none _ => [iv, v, ov] | _ => [v, ov, iv]) []) := rfl
theorem Asg.sub {o i : Expr} {pos : Pos} {y : V} {Q : Rho → Store → Prop} (h : Ev C A env o ρ σ (fun x σ1 => Ev C A env i ρ σ1 (fun z σ2 => SetWP C A x z y σ2 (fun σ3 => Q ρ σ3) X) X) X) : Asg C A env (.Subscript o i pos) y ρ σ Q X := by
  intro s v S F r
  rw [assign_sub]
  refine wpAny_bind (wpAny_holding (wpAny_mono (h s S F) ?_ fun _ _ z => z))
  rintro ov s1 ⟨x, σ1, h1, r1, S1, e1⟩
  refine wpAny_bind (wpAny_holding (wpAny_mono (h1 s1 S1 (F.evo e1)) ?_ fun _ _ z => z))
  rintro iv s2 ⟨z, σ2, h2, r2, S2, e2⟩
  refine wpAny_bind (wpAny_standAt (wpAny_bind (wpAny_holding (wpAny_mono (h2 s2 ov iv v S2 (r1.mono e2.tup) r2 ((r.mono e1.tup).mono e2.tup)) ?_ fun _ _ z => z))))
  rintro _ s3 ⟨σ3, q, S3, e3⟩
  have e := (e1.trans e2).trans e3
  exact PyProof.Rows.wpAny_release' ⟨ρ, σ3, q, S3, F.evo e, e.evoF F.own⟩

def iput : List (Int × V) → Int → V → List (Int × V)
  | [], x, v => [(x, v)]
  | (y, u) :: r, x, v => if x = y then (x, v) :: r else (y, u) :: iput r x v
theorem PR.storedI {h : Heap} {x : Int} {v : Value} {y : V} (r : VR h v y) : ∀ {kvs : List (Int × Value)} {es : List (Int × V)}, PR h kvs es → (kvs.map (·.1)).Nodup → PR h (PySem.stored kvs x v) (iput es x y)
  | _, _, .nil, _ => by
    show PR h (PySem.stored [] x v) [(x, y)]
    simp only [PySem.stored, List.any_nil, Bool.false_eq_true, if_false, List.nil_append]
    exact .cons r .nil
  | _, _, .cons (k := k) a b, hn => by
    rw [stored_cons hn]
    unfold iput
    by_cases q : x = k
    · rw [if_pos q, if_pos q]; exact .cons r b
    · rw [if_neg q, if_neg q]; exact .cons a (PR.storedI r b (List.nodup_cons.mp hn).2)
theorem SetWP.id {d : Addr} {es : List (Int × V)} {k : Int} {y : V} {Q : Store → Prop} (hd : σ d = some (.id es)) (hz : es.length ≤ sizeLine) (h : Q (σ.upd d (.id (iput es k y)))) : SetWP C A (.ref d) (.int k) y σ Q X := by
  intro s a b v S ra rb rv
  cases ra; cases rb
  obtain ⟨kvs, D, pr⟩ := S.rep _ _ hd
  have hnd : (kvs.map (·.1)).Nodup := by obtain ⟨_, _, _, _, _, _, _, _, hn⟩ := D; exact hn
  refine wpAny_setItem_pairs (knd := intKind C.prog C.w) (k := k) (by show (k == k) = true; simp) D (fun h' D' sb => ?_) (by rw [pr.length]; exact hz)
  have tk : TupKeep s.heap h' := tupKeep_sameBut sb (S.rep _ _ hd).notTup
  obtain ⟨S2, e2⟩ := S.set (t := s.toks + 1) (o' := .id (iput es k y)) hd sb ⟨_, D', PR.storedI (rv.mono tk) (pr.mono tk) hnd⟩
  exact ⟨_, h, S2, e2⟩

/- in a dict -/
def SysOk (C : Cx) : Prop := sysModules < C.n₀ ∧ sysModules ∉ C.tabs
theorem St.notSys {a : Addr} {o : O} (S : St C σ s) (hn : SysOk C) (h : σ a = some o) : (a == sysModules) = false := by
  refine beq_eq_false_iff_ne.mpr fun q => ?_
  rcases (S.above a o h).2 with this | this
  · rw [q] at this; exact absurd hn.1 (Nat.not_lt.mpr this)
  · rw [q] at this; exact hn.2 this
theorem valueAt_isSome {K : Type} [DecidableEq K] {h : Heap} {x : K} : ∀ {kvs : List (K × Value)} {es : List (K × V)}, PR h kvs es → (valueAt kvs x).isSome = ((es.find? fun p => decide (p.1 = x)).map (·.2)).isSome
  | _, _, .nil => rfl
  | _, _, .cons (k := k) r rs => by
    unfold valueAt
    by_cases q : k = x
    · subst q; simp
    · simp only [List.find?_cons, q, decide_false]
      exact valueAt_isSome rs
theorem CmpWP.inId {d : Addr} {es : List (Int × V)} {k : Int} {Q : V → Store → Prop} (hd : σ d = some (.id es)) (hn : SysOk C) (h : Q (.bool (iget es k).isSome) σ) : CmpWP C A .In (.int k) (.ref d) σ Q X := by
  intro s a b S ra rb
  cases ra; cases rb
  obtain ⟨kvs, D, pr⟩ := S.rep _ _ hd
  refine wpAny_in_of (knd := intKind C.prog C.w) (k := k) (by show (k == k) = true; simp) (S.notSys hn hd) D.mapOf (EP.pureT S ?_ (.bool _))
  rw [valueAt_isSome pr]; exact h
theorem CmpWP.notInId {d : Addr} {es : List (Int × V)} {k : Int} {Q : V → Store → Prop} (hd : σ d = some (.id es)) (hn : SysOk C) (h : Q (.bool (!(iget es k).isSome)) σ) : CmpWP C A .NotIn (.int k) (.ref d) σ Q X := by
  intro s a b S ra rb
  cases ra; cases rb
  obtain ⟨kvs, D, pr⟩ := S.rep _ _ hd
  refine wpAny_notIn_of (knd := intKind C.prog C.w) (k := k) (by show (k == k) = true; simp) (S.notSys hn hd) D.mapOf (EP.pureT S ?_ (.bool _))
  rw [valueAt_isSome pr]; exact h
end

end Mine

set_option autoImplicit false
set_option linter.unusedVariables false
namespace Mine
open PySem PySem.W PySem.SeqAt PyProof.Rows

theorem top_exists (h : Heap) : ∀ n, (∀ b o, h.get? b = some o → b < n) → ∃ m, (∀ b o, h.get? b = some o → b < m) ∧ ∀ k, m = k + 1 → ∃ o, h.get? k = some o
  | 0, hn => ⟨0, hn, fun k e => by cases e⟩
  | n + 1, hn => by
    cases q : h.get? n with
    | some o => exact ⟨n + 1, hn, fun k e => by cases e; exact ⟨o, q⟩⟩
    | none =>
      refine top_exists h n fun b o e => ?_
      have := hn b o e
      rcases Nat.lt_or_eq_of_le (Nat.le_of_lt_succ this) with z | z
      · exact z
      · rw [z, q] at e; cases e

theorem ints_VRs {h : Heap} : ∀ {vs : List Value} {ns : List Int}, IntsAre vs ns → VRs h vs (ns.map V.int)
  | [], ns, hI => by
    cases ns with
    | nil => exact .nil
    | cons _ _ => have := hI.length; simp at this
  | v :: vs, ns, hI => by
    cases ns with
    | nil => have := hI.length; simp at this
    | cons n ns =>
      cases hI with
      | cons _ h2 => exact .cons (.int _ _) (ints_VRs (by assumption))

/-- the law's call, in my words -/
theorem glue {prog : Program} {w : World} {s₁ : Shared} {K : Frag} {mg mb : Str → Option Value} {l fa : Addr} {vs : List Value} {ns : List Int} (KX : K.In s₁.heap) (hg : s₁.heap.Ns mainGlobals mg) (hb : s₁.heap.Ns builtinsNs mb)
    (hbl : ∀ x : Str, x ≠ "__name__" → mb x = bootBuiltins x) (lim : s₁.heap.NoLimit) (gens : s₁.gens = #[]) (hl : s₁.heap.IsList l vs.toArray) (hI : IntsAre vs ns)
    (h : ∀ C : Cx, C.prog = prog → C.w = w → C.K = K → SysOk C → BaseL C l (ns.map V.int) → CallWP C callerA (.ref fa) [.ref l] (fun _ => none) (fun v _ => v = .bool true) (fun _ _ => False)) :
    wpAny (model prog w) callerA (call (.ref fa) [.ref l]) (fun v s' => v = .bool true ∧ (∀ b o, s₁.heap.get? b = some o → s'.heap.get? b = some o) ∧ s'.os = s₁.os ∧ s'.gens = #[]) (fun _ _ => False) s₁ := by
  obtain ⟨n, hn1, hn2⟩ := top_exists s₁.heap s₁.heap.objs.size fun b o e => Heap.lt_size e
  have h0 : sysModules < n := by
    obtain ⟨o, es, ep, ho, _⟩ := hg
    have := hn1 _ _ ho
    exact Nat.lt_trans (by decide) this
  have := h ⟨prog, w, s₁.heap, s₁.gens, s₁.os, n, hn1, hn2, K, KX, mg, mb, hg, hb, hbl, lim, []⟩ rfl rfl rfl ⟨h0, fun z => (nomatch z)⟩ ⟨vs.toArray, hl, by simpa using ints_VRs hI⟩ s₁ [.ref l]
    ⟨fun _ _ e => e, fun _ _ e => (nomatch e), fun _ _ e => (nomatch e), rfl, rfl⟩ (.cons (.ref _) .nil)
  refine wpAny_mono this ?_ fun _ _ z => z
  rintro v s' ⟨x, σ', rfl, r, S, e⟩
  cases r
  exact ⟨rfl, S.base, S.os, S.gens.trans gens⟩

end Mine

set_option autoImplicit false
set_option linter.unusedVariables false
namespace Mine
open PySem PySem.W PySem.SeqAt PyProof.Rows

section
variable {C : Cx} {A : Around} {env : Env} {ρ : Rho} {σ : Store} {X : XP} {s : Shared}

theorem ofS_ne {a b : String} (h : a ≠ b) : Str.ofString a ≠ Str.ofString b := by
  intro e
  rw [Str.ofString_eq_toList, Str.ofString_eq_toList] at e
  injection e with e
  have e1 : a.toList.map Char.toNat = b.toList.map Char.toNat := by
    have := congrArg Array.toList e; simpa using this
  have inj : Function.Injective Char.toNat := fun x y hxy => by
    have : x.val.toNat = y.val.toNat := hxy
    exact Char.ext (UInt32.toNat_inj.mp this)
  have e2 : a.toList = b.toList := by
    have : ∀ (l m : List Char), l.map Char.toNat = m.map Char.toNat → l = m := by
      intro l
      induction l with
      | nil => intro m hm; cases m with | nil => rfl | cons _ _ => simp at hm
      | cons x l ih =>
        intro m hm
        cases m with
        | nil => simp at hm
        | cons y m =>
          simp only [List.map_cons, List.cons.injEq] at hm
          rw [inj hm.1, ih m hm.2]
    exact this _ _ e1
  exact h (by rw [← String.ofList_toList (s := a), ← String.ofList_toList (s := b), e2])

/-- a call of a def of the text -/
theorem CallWP.fnK {f : Addr} {name qual : Str} {params : Arguments} {body : List Stmt} {scope : Scope} {dV kV doc pm cdv ct oc : Value} {an od : Option Addr} {osl : Array (Option Value)} {names : List Str} {args : List V} {Q : V → Store → Prop}
    (ho : C.K.lookup f = some ⟨oc, od, .func (fnOf name qual params body scope dV kV doc pm an cdv ct), osl⟩) (hcd : codeIn C.K cdv qual = true)
    (hroom : A.depth < recursionLimit)
    (h : ∀ L, Exs C (A.deeper (callEnvC (fnOf name qual params body scope dV kV doc pm an cdv ct) L f)) (callEnvC (fnOf name qual params body scope dV kV doc pm an cdv ct) L f) body (names.zip args) σ (fun g _ σ' => Q g.val σ') (fun _ _ => False))
    (hbind : ∀ vals : List Value, vals.length = args.length → bindArgs (fnOf name qual params body scope dV kV doc pm an cdv ct) ⟨vals, []⟩ = pure (names.zip vals)) (nd : names.Nodup)
    (hkind : (names.all fun y => scope.names.lookup y == some .local || scope.names.lookup y == some .cell) = true) (hsc : scopeOk scope = true) (hco : scope.isCoroutine = false) (hgen : scope.isGenerator = false) (hk : scope.kind = .function) :
    CallWP C A (.ref f) args σ Q X := by
  refine CallWP.fn (C.KX _ _ ho) rfl C.lim (codeRec_of C.KX hcd) rfl hbind rfl nd (fun x hx => ?_) hroom hsc hco hgen hk h
  have := List.all_eq_true.mp hkind x hx
  rcases Bool.or_eq_true_iff.mp this with q | q
  · exact .inl (by simpa using q)
  · have q' : scope.names.lookup x = some .cell := by simpa using q
    exact .inr ⟨q', fun L => cellsFrom_some _ _ _ (.inl q')⟩
end
end Mine

set_option autoImplicit false
set_option linter.unusedVariables false
namespace Mine
open PySem PySem.W PySem.SeqAt PyProof.Rows

/-- a frame's surroundings, its table of names apart -/
abbrev mkE (sc : Scope) (L : Addr) (cells : List (Str × Addr)) (q : Str) (fn : Option Addr) (cd : Value) (fr : Option Addr) : Env :=
  { scope := sc, locals := L, globals := mainGlobals, cells := cells, qual := q, func := fn, code := cd, frame := fr, builtins := builtinsNs }
/-- a comprehension's table of names -/
def reS (scope sc : Scope) : Scope := { scope with names := scope.names.map fun (n, k) => if (k == .free && sc.kind == .function && sc.names.lookup n == some .cell) then (n, .cell) else (n, k) }
section
variable {C : Cx} {A : Around} {ρ : Rho} {σ : Store} {X : XP} {s : Shared} {sc : Scope} {L : Addr} {cells : List (Str × Addr)} {q : Str} {fn : Option Addr} {cd : Value} {fr : Option Addr}

theorem Ev.nloc {x : Str} {pos : Pos} {v : V} {Q : V → Store → Prop} (hk : sc.names.lookup x = some .local) (hv : ρ.get x = some v) (h : Q v σ) (hd : (x == ("__debug__" : Str)) = false := by kernel_rfl) : Ev C A (mkE sc L cells q fn cd fr) (.Name x pos) ρ σ Q X :=
  Ev.loc hk hv h hd
theorem Ev.ncel {x : Str} {pos : Pos} {v : V} {Q : V → Store → Prop} (hk : sc.names.lookup x = some .cell) (hv : ρ.get x = some v) (h : Q v σ) (hc : (cells.lookup x).isSome = true := by kernel_rfl) (hd : (x == ("__debug__" : Str)) = false := by kernel_rfl) : Ev C A (mkE sc L cells q fn cd fr) (.Name x pos) ρ σ Q X := by
  obtain ⟨c, hc⟩ := Option.isSome_iff_exists.mp hc
  exact Ev.cel hk hc hv h hd
theorem Ev.nglob {x : Str} {pos : Pos} {v : Value} {y : V} {Q : V → Store → Prop} (hk : sc.names.lookup x = some .globalImplicit) (e : nsIn C.K mainGlobals x = some (some v)) (r : VR C.h₀ v y) (h : Q y σ) (hd : (x == ("__debug__" : Str)) = false := by kernel_rfl) :
    Ev C A (mkE sc L cells q fn cd fr) (.Name x pos) ρ σ Q X := Ev.glob hk e r h rfl hd
theorem Ev.nblt {x : Str} {pos : Pos} {v : Value} {y : V} {Q : V → Store → Prop} (hk : sc.names.lookup x = some .globalImplicit) (e : nsIn C.K mainGlobals x = some none) (hv : bootBuiltins x = some v) (r : VR C.h₀ v y) (h : Q y σ) (hn : x ≠ "__name__") (hd : (x == ("__debug__" : Str)) = false := by kernel_rfl) :
    Ev C A (mkE sc L cells q fn cd fr) (.Name x pos) ρ σ Q X := Ev.gblt hk e hv r h hn rfl rfl hd
theorem Asg.nloc {x : Str} {pos : Pos} {y : V} {ρ' : Rho} {Q : Rho → Store → Prop} (hk : sc.names.lookup x = some .local) (hp : ρ.put x y = ρ') (h : Q ρ' σ) (hc : cells.lookup x = none := by kernel_rfl) :
    Asg C A (mkE sc L cells q fn cd fr) (.Name x pos) y ρ σ Q X := Asg.loc hk hc hp h
theorem Then.next {env : Env} {ss : List Stmt} {Q : FV → Rho → Store → Prop} (h : Exs C A env ss ρ σ Q X) : Then C A env ss Q X .next ρ σ := h
theorem Then.ret {env : Env} {ss : List Stmt} {v : V} {Q : FV → Rho → Store → Prop} (h : Q (.ret v) ρ σ) : Then C A env ss Q X (.ret v) ρ σ := h
/-- a call of a def of the text -/
theorem CallWP.def {f : Addr} {name qual : Str} {params : Arguments} {body : List Stmt} {scope : Scope} {dV kV doc pm cdv ct oc : Value} {an od : Option Addr} {osl : Array (Option Value)} (names : List Str) {args : List V} {Q : V → Store → Prop}
    (ho : C.K.lookup f = some ⟨oc, od, .func (fnOf name qual params body scope dV kV doc pm an cdv ct), osl⟩) (hcd : codeIn C.K cdv qual = true)
    (hroom : A.depth < recursionLimit)
    (hbind : ∀ vals : List Value, vals.length = args.length → bindArgs (fnOf name qual params body scope dV kV doc pm an cdv ct) ⟨vals, []⟩ = pure (names.zip vals)) (nd : names.Nodup)
    (hkind : (names.all fun y => scope.names.lookup y == some .local || scope.names.lookup y == some .cell) = true) (hsc : scopeOk scope = true) (hco : scope.isCoroutine = false) (hgen : scope.isGenerator = false) (hk : scope.kind = .function)
    (h : ∀ L A', A'.handled = A.handled → A'.depth = A.depth + 1 → A'.units = A.units + 3 → Exs C A' (mkE scope L (cellsFrom (L + 1) scope.names []) (qual ++ ".<locals>.") (some f) cdv (some L)) body (names.zip args) σ (fun g _ σ' => Q g.val σ') (fun _ _ => False)) :
    CallWP C A (.ref f) args σ Q X :=
  CallWP.fnK ho hcd hroom (fun L => h L _ rfl rfl rfl) hbind nd hkind hsc hco hgen hk

/-- a comprehension -/
theorem Ev.lcomp {x : Str} {px pos : Pos} {elt iter : Expr} {ifs : List Expr} {scope : Scope} {ρc : Rho} {Q : V → Store → Prop} (cap : Capt ρ scope.names ρc) (hx : scope.names.lookup x = some .local) (hck : compOk scope = true) (hk : scope.kind = .function)
    (h : Src C A (mkE sc L cells q fn cd fr) (.Name x px) iter ρ σ (fun xs ok σ1 => ∀ L', CmpL C A (mkE (reS scope sc) L' (clOf cells scope.names []) q none cd fr) x ifs elt ok ρc (fun out σ2 => ∀ a, σ2 a = Option.none → Q (.ref a) (σ2.upd a (.list out))) xs [] σ1) X)
    (hfree : (scope.names.all fun p => p.2 != .free || (cells.lookup p.1).isSome) = true := by kernel_rfl) 
    (hs : ∀ x, foldedSetIterable iter (mkE sc L cells q fn cd fr) x = Pure.pure x := by intro _; kernel_rfl) : Ev C A (mkE sc L cells q fn cd fr) (.ListComp elt [⟨.Name x px, iter, ifs, 0⟩] scope pos) ρ σ Q X :=
  Ev.comp hfree hck hk hx cap h hs
theorem Ex.lassign {x y : Str} {px py pos spos : Pos} {elt iter : Expr} {ifs : List Expr} {scope : Scope} {ρc : Rho} {Q : FV → Rho → Store → Prop} (cap : Capt ρ scope.names ρc) (hx : scope.names.lookup x = some .local) (hck : compOk scope = true) (hk : scope.kind = .function)
    (hy : sc.names.lookup y = some .local)
    (h : Src C A (mkE sc L cells q fn cd fr) (.Name x px) iter ρ σ (fun xs ok σ1 => ∀ L', CmpL C A (mkE (reS scope sc) L' (clOf cells scope.names []) q none cd fr) x ifs elt ok ρc (fun out σ2 => ∀ a, σ2 a = none → Q .next (ρ.put y (.ref a)) (σ2.upd a (.list out))) xs [] σ1) X)
    (hsw : swapsWith (.ListComp elt [⟨.Name x px, iter, ifs, 0⟩] scope pos) (some (.Name y py)) spos.line (mkE sc L cells q fn cd fr) = pure true := by kernel_rfl)
    (hfree : (scope.names.all fun p => p.2 != .free || (cells.lookup p.1).isSome) = true := by kernel_rfl) (hyc : cells.lookup y = none := by kernel_rfl)
    (hs : ∀ x, foldedSetIterable iter (mkE sc L cells q fn cd fr) x = pure x := by intro _; kernel_rfl) : Ex C A (mkE sc L cells q fn cd fr) (.Assign [.Name y py] (.ListComp elt [⟨.Name x px, iter, ifs, 0⟩] scope pos) spos) ρ σ Q X :=
  Ex.assignComp hfree hck hk hx cap hy hyc h hsw hs

/-- f(args): f a def or a class of the text -/
theorem Ev.callR {func : Expr} {args : List Expr} {pos : Pos} {Q : V → Store → Prop} {env : Env}
    (h : Ev C A env func ρ σ (fun fx σ1 => ∃ f, fx = .ref f ∧ keepIn C.K (.ref f) = true ∧ Ags C A env pos args ρ σ1 (fun xs σ2 => CallWP C A (.ref f) xs σ2 Q X) X) X)
    (hev : eval (.Call func args [] pos) env = (do callWith pos (← eval func env) [] (backTo pos (starEach args env)) (backToKw pos (keywordEach [] env))) := by kernel_rfl)
    (he : (backTo pos (starEach args env)).any (·.1) = false := by kernel_rfl) : Ev C A env (.Call func args [] pos) ρ σ Q X := by
  intro s S F
  rw [hev]
  refine wpAny_bind (wpAny_mono (h s S F) ?_ fun _ _ z => z)
  rintro v s1 ⟨x, σ1, ⟨f, rfl, kp, q⟩, r1, S1, e1⟩
  cases r1
  exact wpAny_mono (callWith_mine (first := []) (fx := []) (Kp.ref kp) S1 (F.evo e1) .nil q he) (fun _ _ z => z.after e1) fun _ _ z => z
/-- f(args): f a built-in, or a built-in class -/
theorem Ev.callB {func : Expr} {args : List Expr} {pos : Pos} {Q : V → Store → Prop} {env : Env}
    (h : Ev C A env func ρ σ (fun fx σ1 => ∃ f, (fx = .blt f ∧ Ags C A env pos args ρ σ1 (fun xs σ2 => CallWP C A (.builtin f) xs σ2 Q X) X) ∨ (fx = .typ f ∧ Ags C A env pos args ρ σ1 (fun xs σ2 => CallWP C A (.type f) xs σ2 Q X) X)) X)
    (hev : eval (.Call func args [] pos) env = (do callWith pos (← eval func env) [] (backTo pos (starEach args env)) (backToKw pos (keywordEach [] env))) := by kernel_rfl)
    (he : (backTo pos (starEach args env)).any (·.1) = false := by kernel_rfl) : Ev C A env (.Call func args [] pos) ρ σ Q X := by
  intro s S F
  rw [hev]
  refine wpAny_bind (wpAny_mono (h s S F) ?_ fun _ _ z => z)
  rintro v s1 ⟨x, σ1, ⟨f, (⟨rfl, q⟩ | ⟨rfl, q⟩)⟩, r1, S1, e1⟩
  · cases r1
    exact wpAny_mono (callWith_mine (first := []) (fx := []) Kp.blt S1 (F.evo e1) .nil q he) (fun _ _ z => z.after e1) fun _ _ z => z
  · cases r1
    exact wpAny_mono (callWith_mine (first := []) (fx := []) Kp.typ S1 (F.evo e1) .nil q he) (fun _ _ z => z.after e1) fun _ _ z => z
end
end Mine
namespace Mine
open PySem PySem.W
theorem CmpL.pure {C : Cx} {A : Around} {env : Env} {x : Str} {ifs : List Expr} {elt : Expr} {ok : Store → Prop} {ρ : Rho} {R : List V → Store → Prop} {σ : Store} (p : V → Bool) (f : V → V) (hok : ok σ) :
    ∀ (ys out : List V), (∀ y ∈ ys, ∀ Q : Bool → Store → Prop, Q (p y) σ → Ifs C A env ifs (ρ.put x y) σ Q (fun _ _ => False)) → (∀ y ∈ ys, p y = true → ∀ Q : V → Store → Prop, Q (f y) σ → Ev C A env elt (ρ.put x y) σ Q (fun _ _ => False)) →
    out.length + ys.length ≤ sizeLine → R (out ++ (ys.filter p).map f) σ → CmpL C A env x ifs elt ok ρ R ys out σ
  | [], out, _, _, _, h => by simpa [CmpL] using h
  | y :: ys, out, h1, h2, hz, h => by
    unfold CmpL
    refine h1 y (.head _) _ ?_
    simp only [List.length_cons] at hz
    cases q : p y with
    | true =>
      simp only [if_true]
      refine h2 y (.head _) q _ ⟨by omega, hok, ?_⟩
      refine CmpL.pure p f hok ys (out ++ [f y]) (fun z hz => h1 z (.tail _ hz)) (fun z hz => h2 z (.tail _ hz)) (by simp; omega) ?_
      simpa [List.filter_cons, q] using h
    | false =>
      simp only [Bool.false_eq_true, if_false]
      refine ⟨hok, CmpL.pure p f hok ys out (fun z hz => h1 z (.tail _ hz)) (fun z hz => h2 z (.tail _ hz)) (by omega) ?_⟩
      simpa [List.filter_cons, q] using h
theorem Ifs.nil {C : Cx} {A : Around} {env : Env} {ρ : Rho} {σ : Store} {X : XP} {Q : Bool → Store → Prop} (h : Q true σ) : Ifs C A env [] ρ σ Q X := h
theorem Ifs.one {C : Cx} {A : Around} {env : Env} {ρ : Rho} {σ : Store} {X : XP} {c : Expr} {Q : Bool → Store → Prop} (h : Tst C A env c ρ σ Q X) : Ifs C A env [c] ρ σ Q X := h
end Mine

/- arities -/
namespace Mine
open PySem PySem.W PySem.SeqAt PyProof.Rows
section
variable {C : Cx} {A : Around} {σ : Store} {X : XP}
theorem CallWP.def1 (x1 : Str) {f : Addr} {name qual : Str} {params : Arguments} {body : List Stmt} {scope : Scope} {dV kV doc pm cdv ct oc : Value} {an od : Option Addr} {osl : Array (Option Value)} {v1 : V} {Q : V → Store → Prop}
    (ho : C.K.lookup f = some ⟨oc, od, .func (fnOf name qual params body scope dV kV doc pm an cdv ct), osl⟩) (hcd : codeIn C.K cdv qual = true) (hroom : A.depth < recursionLimit)
    (hbind : ∀ u1 : Value, bindArgs (fnOf name qual params body scope dV kV doc pm an cdv ct) ⟨[u1], []⟩ = pure [(x1, u1)]) (nd : ([x1] : List Str).Nodup)
    (hkind : (([x1] : List Str).all fun y => scope.names.lookup y == some .local || scope.names.lookup y == some .cell) = true) (hsc : scopeOk scope = true) (hco : scope.isCoroutine = false) (hgen : scope.isGenerator = false) (hk : scope.kind = .function)
    (h : ∀ L A', A'.handled = A.handled → A'.depth = A.depth + 1 → A'.units = A.units + 3 → Exs C A' (mkE scope L (cellsFrom (L + 1) scope.names []) (qual ++ ".<locals>.") (some f) cdv (some L)) body [(x1, v1)] σ (fun g _ σ' => Q g.val σ') (fun _ _ => False)) :
    CallWP C A (.ref f) [v1] σ Q X :=
  CallWP.def [x1] (args := [v1]) ho hcd hroom (fun vals hl => by match vals, hl with | [u1], _ => exact hbind u1) nd hkind hsc hco hgen hk h
theorem CallWP.def2 (x1 x2 : Str) {f : Addr} {name qual : Str} {params : Arguments} {body : List Stmt} {scope : Scope} {dV kV doc pm cdv ct oc : Value} {an od : Option Addr} {osl : Array (Option Value)} {v1 v2 : V} {Q : V → Store → Prop}
    (ho : C.K.lookup f = some ⟨oc, od, .func (fnOf name qual params body scope dV kV doc pm an cdv ct), osl⟩) (hcd : codeIn C.K cdv qual = true) (hroom : A.depth < recursionLimit)
    (hbind : ∀ u1 u2 : Value, bindArgs (fnOf name qual params body scope dV kV doc pm an cdv ct) ⟨[u1, u2], []⟩ = pure [(x1, u1), (x2, u2)]) (nd : ([x1, x2] : List Str).Nodup)
    (hkind : (([x1, x2] : List Str).all fun y => scope.names.lookup y == some .local || scope.names.lookup y == some .cell) = true) (hsc : scopeOk scope = true) (hco : scope.isCoroutine = false) (hgen : scope.isGenerator = false) (hk : scope.kind = .function)
    (h : ∀ L A', A'.handled = A.handled → A'.depth = A.depth + 1 → A'.units = A.units + 3 → Exs C A' (mkE scope L (cellsFrom (L + 1) scope.names []) (qual ++ ".<locals>.") (some f) cdv (some L)) body [(x1, v1), (x2, v2)] σ (fun g _ σ' => Q g.val σ') (fun _ _ => False)) :
    CallWP C A (.ref f) [v1, v2] σ Q X :=
  CallWP.def [x1, x2] (args := [v1, v2]) ho hcd hroom (fun vals hl => by match vals, hl with | [u1, u2], _ => exact hbind u1 u2) nd hkind hsc hco hgen hk h
theorem CallWP.def3 (x1 x2 x3 : Str) {f : Addr} {name qual : Str} {params : Arguments} {body : List Stmt} {scope : Scope} {dV kV doc pm cdv ct oc : Value} {an od : Option Addr} {osl : Array (Option Value)} {v1 v2 v3 : V} {Q : V → Store → Prop}
    (ho : C.K.lookup f = some ⟨oc, od, .func (fnOf name qual params body scope dV kV doc pm an cdv ct), osl⟩) (hcd : codeIn C.K cdv qual = true) (hroom : A.depth < recursionLimit)
    (hbind : ∀ u1 u2 u3 : Value, bindArgs (fnOf name qual params body scope dV kV doc pm an cdv ct) ⟨[u1, u2, u3], []⟩ = pure [(x1, u1), (x2, u2), (x3, u3)]) (nd : ([x1, x2, x3] : List Str).Nodup)
    (hkind : (([x1, x2, x3] : List Str).all fun y => scope.names.lookup y == some .local || scope.names.lookup y == some .cell) = true) (hsc : scopeOk scope = true) (hco : scope.isCoroutine = false) (hgen : scope.isGenerator = false) (hk : scope.kind = .function)
    (h : ∀ L A', A'.handled = A.handled → A'.depth = A.depth + 1 → A'.units = A.units + 3 → Exs C A' (mkE scope L (cellsFrom (L + 1) scope.names []) (qual ++ ".<locals>.") (some f) cdv (some L)) body [(x1, v1), (x2, v2), (x3, v3)] σ (fun g _ σ' => Q g.val σ') (fun _ _ => False)) :
    CallWP C A (.ref f) [v1, v2, v3] σ Q X :=
  CallWP.def [x1, x2, x3] (args := [v1, v2, v3]) ho hcd hroom (fun vals hl => by match vals, hl with | [u1, u2, u3], _ => exact hbind u1 u2 u3) nd hkind hsc hco hgen hk h
theorem CallWP.def5 (x1 x2 x3 x4 x5 : Str) {f : Addr} {name qual : Str} {params : Arguments} {body : List Stmt} {scope : Scope} {dV kV doc pm cdv ct oc : Value} {an od : Option Addr} {osl : Array (Option Value)} {v1 v2 v3 v4 v5 : V} {Q : V → Store → Prop}
    (ho : C.K.lookup f = some ⟨oc, od, .func (fnOf name qual params body scope dV kV doc pm an cdv ct), osl⟩) (hcd : codeIn C.K cdv qual = true) (hroom : A.depth < recursionLimit)
    (hbind : ∀ u1 u2 u3 u4 u5 : Value, bindArgs (fnOf name qual params body scope dV kV doc pm an cdv ct) ⟨[u1, u2, u3, u4, u5], []⟩ = pure [(x1, u1), (x2, u2), (x3, u3), (x4, u4), (x5, u5)]) (nd : ([x1, x2, x3, x4, x5] : List Str).Nodup)
    (hkind : (([x1, x2, x3, x4, x5] : List Str).all fun y => scope.names.lookup y == some .local || scope.names.lookup y == some .cell) = true) (hsc : scopeOk scope = true) (hco : scope.isCoroutine = false) (hgen : scope.isGenerator = false) (hk : scope.kind = .function)
    (h : ∀ L A', A'.handled = A.handled → A'.depth = A.depth + 1 → A'.units = A.units + 3 → Exs C A' (mkE scope L (cellsFrom (L + 1) scope.names []) (qual ++ ".<locals>.") (some f) cdv (some L)) body [(x1, v1), (x2, v2), (x3, v3), (x4, v4), (x5, v5)] σ (fun g _ σ' => Q g.val σ') (fun _ _ => False)) :
    CallWP C A (.ref f) [v1, v2, v3, v4, v5] σ Q X :=
  CallWP.def [x1, x2, x3, x4, x5] (args := [v1, v2, v3, v4, v5]) ho hcd hroom (fun vals hl => by match vals, hl with | [u1, u2, u3, u4, u5], _ => exact hbind u1 u2 u3 u4 u5) nd hkind hsc hco hgen hk h
end
end Mine

set_option autoImplicit false
set_option linter.unusedVariables false
namespace Mine
open PySem PySem.W PySem.SeqAt PyProof.Rows

theorem Rho.gp_hit {x : Str} {v : V} {r : Rho} : Rho.get (Rho.put r x v) x = some v := by rw [Rho.get_put]; simp
theorem Rho.gp_miss {x y : Str} {v : V} {u : Option V} {r : Rho} (h : y ≠ x) (k : Rho.get r y = u) : Rho.get (Rho.put r x v) y = u := by rw [Rho.get_put, if_neg h, k]

section
variable {C : Cx} {A : Around} {env : Env} {ρ : Rho} {σ : Store} {X : XP} {s : Shared}

/- {"a": .., "b": ..} -/
inductive KVR (h : Heap) : List (Value × Value) → List (Str × V) → Prop
  | nil : KVR h [] []
  | cons {k : Str} {t : Tok} {v : Value} {x : V} {r : List (Value × Value)} {r' : List (Str × V)} : VR h v x → KVR h r r' → KVR h ((.str k t, v) :: r) ((k, x) :: r')
def Prs (C : Cx) (A : Around) (env : Env) (pos : Pos) (ks : List (Option Expr)) (vs : List Expr) (ρ : Rho) (σ : Store) (Q : List (Str × V) → Store → Prop) (X : XP) : Prop :=
  ∀ s, St C σ s → Fm C σ s.heap env ρ → wpAny C.M A (evalPairs (pairTrees ks vs env pos)) (fun r s' => ∃ xs σ', Q xs σ' ∧ KVR s'.heap r xs ∧ St C σ' s' ∧ Evo σ s.heap σ' s'.heap) X s
/- pop() -/
/- all(), any() over a list of truths -/
theorem small_le {n : Nat} (h : Nat.ble n sizeLine = true) : n ≤ sizeLine := Nat.le_of_ble_eq_true h
theorem Szs.mk {xs : List V} {P : Prop} (h : xs.length ≤ sizeLine) (k : P) : xs.length ≤ sizeLine ∧ P := ⟨h, k⟩
theorem Br.t {b : Bool} {p q : Prop} (hb : b = true) (h : p) : if b = true then p else q := by rw [if_pos hb]; exact h
theorem Br.f {b : Bool} {p q : Prop} (hb : b = false) (h : q) : if b = true then p else q := by rw [if_neg (by simp [hb])]; exact h
theorem ItemWP.tup0 {x : V} {xs : List V} {Q : V → Store → Prop} (h : Q x σ) : ItemWP C A (.tup (x :: xs)) (.int 0) σ Q X :=
  ItemWP.tup (j := 0) (by decide) (by decide) (by rw [seqIndex_of (by omega) (by simp)]; rfl) rfl h
theorem ItemWP.tup1 {x y : V} {xs : List V} {Q : V → Store → Prop} (h : Q x σ) : ItemWP C A (.tup (y :: x :: xs)) (.int 1) σ Q X :=
  ItemWP.tup (j := 1) (by decide) (by decide) (by rw [seqIndex_of (by omega) (by simp; omega)]; rfl) rfl h
end
end Mine

set_option autoImplicit false
set_option linter.unusedVariables false
namespace Mine
open PySem PySem.W PySem.SeqAt PyProof.Rows

/- stores -/
def Grow (σ σ' : Store) : Prop := ∀ b o, σ b = some o → σ' b = some o
theorem Grow.rfl' {σ : Store} : Grow σ σ := fun _ _ e => e
theorem Store.hit {σ : Store} {a : Addr} {o : O} : (σ.upd a o) a = some o := by simp [Store.upd]
theorem Store.miss {σ : Store} {a b : Addr} {o : O} {r : Option O} (h : b ≠ a) (k : σ b = r) : (σ.upd a o) b = r := by simp [Store.upd, h, k]
theorem Store.at_fresh {σ : Store} {a b : Addr} {o o' : O} (h : σ a = none) (k : σ b = some o') : (σ.upd a o) b = some o' := Store.miss (fun e => by rw [e, h] at k; cases k) k
theorem Grow.fresh {σ σ' : Store} {a : Addr} {o : O} (g : Grow σ σ') (h : σ' a = none) : Grow σ (σ'.upd a o) := fun b o' e => Store.at_fresh h (g b o' e)
theorem Grow.upd {σ σ' : Store} {a : Addr} {o : O} (g : Grow σ σ') (h : σ a = none) : Grow σ (σ'.upd a o) := fun b o' e => Store.miss (fun q => by rw [q, h] at e; cases e) (g b o' e)
section
variable {C : Cx} {A : Around} {env : Env} {ρ : Rho} {σ : Store} {X : XP} {s : Shared}
theorem Asg.mono {t : Expr} {x : V} {Q Q' : Rho → Store → Prop} (h : Asg C A env t x ρ σ Q X) (k : ∀ ρ σ, Q ρ σ → Q' ρ σ) : Asg C A env t x ρ σ Q' X := by
  intro s v S F r
  refine wpAny_mono (h s v S F r) ?_ fun _ _ z => z
  rintro _ s1 ⟨ρ1, σ1, q, rest⟩
  exact ⟨ρ1, σ1, k _ _ q, rest⟩

theorem TyGo.mk {x : V} {T : String} {P : Prop} (h : TyV C σ x T) (k : P) : TyV C σ x T ∧ P := ⟨h, k⟩
theorem Eqs.mk {x y : V} {P : Prop} (h : x = y) (k : P) : x = y ∧ P := ⟨h, k⟩
theorem LstAt.st {l : Addr} {xs : List V} (h : σ l = some (.list xs)) : LstAt C σ l xs := .inl h
/-- what a loop's body owes -/
def LpQ (ok : Store → Prop) (J : Rho → Store → Prop) (Q : FV → Rho → Store → Prop) (g : FV) (ρ : Rho) (σ : Store) : Prop :=
  match g with
  | .next | .cont => ok σ ∧ J ρ σ
  | .brk => Q .next ρ σ
  | .ret v => Q (.ret v) ρ σ
theorem LpQ.n {ok : Store → Prop} {J : Rho → Store → Prop} {Q : FV → Rho → Store → Prop} (h : ok σ ∧ J ρ σ) : LpQ ok J Q .next ρ σ := h
theorem ForL.inv {α : Type} {target : Expr} {body : List Stmt} {ok : Store → Prop} {Q : FV → Rho → Store → Prop} (enc : α → V) (I : List α → Rho → Store → Prop)
    (step : ∀ x xs ρ σ, I (x :: xs) ρ σ → Asg C A env target (enc x) ρ σ (fun ρ1 σ1 => Exs C A env body ρ1 σ1 (LpQ ok (I xs) Q) (fun _ _ => False)) (fun _ _ => False))
    (done : ∀ ρ σ, I [] ρ σ → Q .next ρ σ) : ∀ xs ρ σ, I xs ρ σ → ForL C A env target body ok Q (xs.map enc) ρ σ
  | [], ρ, σ, h => done ρ σ h
  | x :: xs, ρ, σ, h => by
    refine (step x xs ρ σ h).mono fun ρ1 σ1 h1 => h1.mono fun g ρ2 σ2 h2 => ?_
    cases g with
    | next => exact ⟨h2.1, ForL.inv enc I step done xs ρ2 σ2 h2.2⟩
    | cont => exact ⟨h2.1, ForL.inv enc I step done xs ρ2 σ2 h2.2⟩
    | brk => exact h2
    | ret v => exact h2

end
end Mine

set_option autoImplicit false
set_option linter.unusedVariables false
namespace Mine
open PySem PySem.W PySem.SeqAt PyProof.Rows

/- texts: their length and their code points -/
end Mine

namespace Mine
open PySem PySem.W PySem.SeqAt PyProof.Rows
section
variable {C : Cx} {A : Around} {σ : Store} {X : XP}
theorem sget_hit {x : Str} {v : V} {r : List (Str × V)} : sget ((x, v) :: r) x = some v := by simp [sget]
theorem sget_miss {x y : Str} {u : V} {v : Option V} {r : List (Str × V)} (h : x ≠ y) (k : sget r x = v) : sget ((y, u) :: r) x = v := by
  subst k; have h' : ¬ y = x := fun e => h e.symm
  simp [sget, h']
theorem CallWP.range1 {n : Int} {Q : V → Store → Prop} (h : Q (.rng 0 n) σ) : CallWP C A (.type "range") [.int n] σ Q X := by
  intro s vs S r
  cases r with
  | cons r1 r2 =>
  cases r2; cases r1
  exact call_range_1 ⟨.rng 0 n, σ, h, .rng (IsRange.new _ _ _ _ _ _ _), S.push, .push⟩
theorem CallWP.range2 {a b : Int} {Q : V → Store → Prop} (h : Q (.rng a b) σ) : CallWP C A (.type "range") [.int a, .int b] σ Q X := by
  intro s vs S r
  cases r with
  | cons r1 r2 =>
  cases r2 with
  | cons r2 r3 =>
  cases r3; cases r1; cases r2
  exact call_range_2 ⟨.rng a b, σ, h, .rng (IsRange.new _ _ _ _ _ _ _), S.push, .push⟩
theorem intMul_l {a b : Int} (h1 : -(2 ^ 64) < a) (h2 : a < 2 ^ 64) : IntMulOk a b := IntMulOk.of_left (intBits_le_64 h1 h2)
theorem intMul_r {a b : Int} (h1 : -(2 ^ 64) < b) (h2 : b < 2 ^ 64) : IntMulOk a b := IntMulOk.of_right (intBits_le_64 h1 h2)
end
end Mine

set_option autoImplicit false
set_option linter.unusedVariables false
namespace Mine
open PySem PySem.W PySem.SeqAt PyProof.Rows
section
variable {C : Cx} {A : Around} {σ : Store} {X : XP}
/- plain data -/
theorem DRs.map {α : Type} {f : α → V} {g : α → PyData} : ∀ {xs : List α}, (∀ x ∈ xs, DR C σ (f x) (g x)) → DRs C σ (xs.map f) (xs.map g)
  | [], _ => .nil
  | x :: xs, h => .cons (h x (.head _)) (DRs.map fun y hy => h y (.tail _ hy))
theorem canLayAll_map {α : Type} {g : α → PyData} : ∀ {xs : List α}, (∀ x ∈ xs, (g x).canLay0 = true) → PyData.canLayAll0 (xs.map g) = true
  | [], _ => by simp [PyData.canLayAll0]
  | x :: xs, h => by simp [PyData.canLayAll0, h x (.head _), canLayAll_map fun y hy => h y (.tail _ hy)]
theorem depthAll_map {α : Type} {g : α → PyData} {k : Nat} : ∀ {xs : List α}, (∀ x ∈ xs, (g x).depth ≤ k) → PyData.depthAll (xs.map g) ≤ k
  | [], _ => by simp [PyData.depthAll]
  | x :: xs, h => by
    have h1 := h x (.head _)
    have h2 := depthAll_map (xs := xs) fun y hy => h y (.tail _ hy)
    simp only [List.map_cons, PyData.depthAll]; omega
theorem CmpWP.eqSame {x y : V} {d : PyData} {Q : V → Store → Prop} (hx : DR C σ x d) (hy : DR C σ y d) (h1 : d.canLay0 = true) (hu : A.units + d.depth < cLine) (h : Q (.bool true) σ) : CmpWP C A .Eq x y σ Q X :=
  CmpWP.eq hx hy h1 h1 (by omega) (by rw [eqv_refl d h1]; exact h)
theorem CmpWP.neSame {x y : V} {d : PyData} {Q : V → Store → Prop} (hx : DR C σ x d) (hy : DR C σ y d) (h1 : d.canLay0 = true) (hu : A.units + d.depth < cLine) (h : Q (.bool false) σ) : CmpWP C A .NotEq x y σ Q X :=
  CmpWP.ne hx hy h1 h1 (by omega) (by rw [eqv_refl d h1]; exact h)
theorem isi_t {x : V} {t : Ty} {U : String} {Q : V → Store → Prop} (ht : HasTy C σ x t) (hU : (U = "int" ∨ U = "bool" ∨ U = "str" ∨ U = "list" ∨ U = "tuple")) {b : Bool} (hb : isiB t U = b) (h : Q (.bool b) σ) : CallWP C A (.builtin "isinstance") [x, .typ U] σ Q X :=
  CallWP.isi ht hU (by rw [hb]; exact h)
end
end Mine

set_option autoImplicit false
set_option linter.unusedVariables false
namespace Mine
open PySem PySem.W PySem.SeqAt PyProof.Rows
section
variable {C : Cx} {A : Around} {env : Env} {ρ : Rho} {σ : Store} {X : XP} {s : Shared}
/- a, b, c = x, y, z -/
def AsgN (C : Cx) (A : Around) (env : Env) (ns : List Str) (xs : List V) (ρ : Rho) (σ : Store) (Q : Rho → Store → Prop) (X : XP) : Prop :=
  ∀ s vs, St C σ s → Fm C σ s.heap env ρ → VRs s.heap vs xs → wpAny C.M A (assignInOrder (ns.map fun n => bindName env n) vs) (fun _ s' => ∃ ρ' σ', Q ρ' σ' ∧ St C σ' s' ∧ Fm C σ' s'.heap env ρ' ∧ EvoF env σ s.heap σ' s'.heap) X s
theorem Store.none_ne {σ : Store} {a b : Addr} {o : O} (h : (σ.upd b o) a = none) : a ≠ b ∧ σ a = none := by
  by_cases q : a = b
  · subst q; simp [Store.upd] at h
  · exact ⟨q, by simpa [Store.upd, q] using h⟩
end
end Mine

namespace Mine
open PySem PySem.W
section
variable {C : Cx} {A : Around} {env : Env} {ρ : Rho} {σ : Store} {X : XP}
end
end Mine

set_option autoImplicit false
set_option linter.unusedVariables false
namespace Mine
open PySem PySem.W
/- which kind of goal stands: one quick look each -/
section
variable {C : Cx} {A : Around} {env : Env} {ρ : Rho} {σ : Store} {X : XP}
theorem is.ev {e : Expr} {Q : V → Store → Prop} (h : Ev C A env e ρ σ Q X) : Ev C A env e ρ σ Q X := h
theorem is.tst {e : Expr} {Q : Bool → Store → Prop} (h : Tst C A env e ρ σ Q X) : Tst C A env e ρ σ Q X := h
theorem is.ex {e : Stmt} {Q : FV → Rho → Store → Prop} (h : Ex C A env e ρ σ Q X) : Ex C A env e ρ σ Q X := h
theorem is.exs {e : List Stmt} {Q : FV → Rho → Store → Prop} (h : Exs C A env e ρ σ Q X) : Exs C A env e ρ σ Q X := h
theorem is.thn {e : List Stmt} {Q : FV → Rho → Store → Prop} {g : FV} (h : Then C A env e Q X g ρ σ) : Then C A env e Q X g ρ σ := h
theorem is.asg {e : Expr} {x : V} {Q : Rho → Store → Prop} (h : Asg C A env e x ρ σ Q X) : Asg C A env e x ρ σ Q X := h
theorem is.cmp {o : CmpOp} {x y : V} {Q : V → Store → Prop} (h : CmpWP C A o x y σ Q X) : CmpWP C A o x y σ Q X := h
theorem is.bin {o : Operator} {x y : V} {Q : V → Store → Prop} (h : BinWP C A o x y σ Q X) : BinWP C A o x y σ Q X := h
theorem is.call {f : Value} {xs : List V} {Q : V → Store → Prop} (h : CallWP C A f xs σ Q X) : CallWP C A f xs σ Q X := h
theorem is.item {x y : V} {Q : V → Store → Prop} (h : ItemWP C A x y σ Q X) : ItemWP C A x y σ Q X := h
theorem is.lp {ok : Store → Prop} {J : Rho → Store → Prop} {Q : FV → Rho → Store → Prop} {g : FV} (h : LpQ ok J Q g ρ σ) : LpQ ok J Q g ρ σ := h
theorem is.tru {x : V} {Q : Bool → Store → Prop} (h : TruWP C A x σ Q X) : TruWP C A x σ Q X := h
theorem is.ags {pos : Pos} {es : List Expr} {Q : List V → Store → Prop} (h : Ags C A env pos es ρ σ Q X) : Ags C A env pos es ρ σ Q X := h
end
end Mine

set_option autoImplicit false
set_option linter.unusedVariables false
namespace Mine
open PySem PySem.W PyProof.Rows

/- the sort's questions answered by a weak order: its answer is sorted and stable -/
structure SWO (lt : Nat → Nat → Bool) : Prop where
  irr : ∀ i, lt i i = false
  tr : ∀ i j k, lt i j = true → lt j k = true → lt i k = true
  nt : ∀ i j k, lt i j = false → lt j k = false → lt i k = false
def slt (lt : Nat → Nat → Bool) (i j : Nat) : Prop := lt i j = true ∨ (lt j i = false ∧ i < j)
section
variable {lt : Nat → Nat → Bool}
theorem SWO.asym (W : SWO lt) {i j : Nat} (h : lt i j = true) : lt j i = false := by
  cases q : lt j i with
  | false => rfl
  | true => have := W.tr i j i h q; rw [W.irr] at this; cases this
theorem SWO.l1 (W : SWO lt) {i j k : Nat} (h : lt i j = true) (n : lt k j = false) : lt i k = true := by
  cases q : lt i k with
  | true => rfl
  | false => rw [W.nt i k j q n] at h; cases h
theorem SWO.l2 (W : SWO lt) {i j k : Nat} (n : lt j i = false) (h : lt j k = true) : lt i k = true := by
  cases q : lt i k with
  | true => rfl
  | false => rw [W.nt j i k n q] at h; cases h
theorem slt.not (W : SWO lt) {i j : Nat} (h : slt lt i j) : lt j i = false := by
  rcases h with h | h
  · exact W.asym h
  · exact h.1
theorem slt.trans (W : SWO lt) {i j k : Nat} (a : slt lt i j) (b : slt lt j k) : slt lt i k := by
  rcases a with a | ⟨a, a'⟩ <;> rcases b with b | ⟨b, b'⟩
  · exact .inl (W.tr _ _ _ a b)
  · exact .inl (W.l1 a b)
  · exact .inl (W.l2 a b)
  · exact .inr ⟨W.nt _ _ _ b a, Nat.lt_trans a' b'⟩
def Srt (lt : Nat → Nat → Bool) (p : Nat → Nat) (n : Nat) : Prop := ∀ i j, i < j → j < n → slt lt (p i) (p j)
theorem Srt.ext (W : SWO lt) {p : Nat → Nat} {n : Nat} (h : Srt lt p n) (h1 : 1 ≤ n) (k : slt lt (p (n - 1)) (p n)) : Srt lt p (n + 1) := by
  intro i j hij hj
  by_cases q : j < n
  · exact h i j hij q
  · have : j = n := by omega
    subst this
    by_cases q : i = j - 1
    · subst q; exact k
    · exact (h i (j - 1) (by omega) (by omega)).trans W k
structure Idn (p : Nat → Nat) (n N : Nat) : Prop where
  rest : ∀ k, n ≤ k → k < N → p k = k
  low : ∀ k, k < n → p k < n
theorem Idn.succ {p : Nat → Nat} {n N : Nat} (I : Idn p n N) (h : n < N) : Idn p (n + 1) N :=
  ⟨fun k a b => I.rest k (by omega) b, fun k a => by
    by_cases q : k < n
    · have := I.low k q; omega
    · have : k = n := by omega
      subst this; rw [I.rest k (Nat.le_refl _) h]; omega⟩
theorem Idn.mono {p : Nat → Nat} {n N : Nat} (I : Idn p n N) : ∀ m, n ≤ m → m ≤ N → Idn p m N := by
  intro m h1 h2
  induction m with
  | zero => have : n = 0 := by omega
            subst this; exact I
  | succ m ih =>
    by_cases q : n = m + 1
    · subst q; exact I
    · exact (ih (by omega) (by omega)).succ (by omega)
abbrev fn (P : Array Nat) (k : Nat) : Nat := P.getD k 0
theorem fn_get (P : Array Nat) (k : Nat) : fn P k = (P[k]?).getD 0 := by simp [fn]
theorem fn_rev {P : Array Nat} {i j : Nat} (hj : j ≤ P.size) (k : Nat) : fn (kas_rev P i j) k = if i ≤ k ∧ k < j then fn P (i + j - 1 - k) else fn P k := by
  rw [fn_get]; unfold kas_rev; rw [getElem?_mirror_all hj]
  split <;> rw [fn_get]
theorem fn_bubble {P : Array Nat} {k d : Nat} (hk : k < P.size) (hd : d ≤ k) (i : Nat) : fn (bubble P k d) i = if i = k - d then fn P k else if k - d < i ∧ i ≤ k then fn P (i - 1) else fn P i := by
  rw [fn_get, fn_get, fn_get, fn_get, getElem?_bubble hk d hd]
  split
  · rfl
  · split <;> rfl
theorem rev_size (P : Array Nat) (i j : Nat) : (kas_rev P i j).size = P.size := mirror_size _ _ _ _
theorem rev_perm (P : Array Nat) (i j : Nat) : (kas_rev P i j).Perm P := mirror_perm _ _ _ _

variable {cmp : Nat → Nat → (Bool → Shared → Prop) → Shared → Prop} {s : Shared} {N : Nat}
/-- P: the array's state -/
structure PA (P : Array Nat) (N : Nat) : Prop where
  sz : P.size = N
  pm : P.toList.Perm (List.range N)
theorem PA.rev {P : Array Nat} (h : PA P N) (i j : Nat) : PA (kas_rev P i j) N := ⟨(rev_size _ _ _).trans h.sz, ((rev_perm P i j).toList).trans h.pm⟩
theorem PA.bub {P : Array Nat} (h : PA P N) (i j : Nat) : PA (bubble P i j) N := ⟨(bubble_size _ _ _).trans h.sz, ((bubble_perm P i j).toList).trans h.pm⟩
theorem PA.bnd {P : Array Nat} (h : PA P N) {k : Nat} (hk : k < N) : fn P k < N := by
  have hk' : k < P.size := by rw [h.sz]; exact hk
  have : fn P k ∈ P.toList := by
    have e : fn P k = P[k] := by simp [fn, Array.getD, hk']
    rw [e]; exact Array.getElem_mem_toList hk'
  have := h.pm.mem_iff.mp this
  simpa using this

theorem asc_ok (W : SWO lt) (hc : ∀ i j C, i < N → j < N → C (lt i j) s → cmp i j C s) {P : Array Nat} (hP : PA P N) {Q : Nat → Shared → Prop} : ∀ f n, n + f = N → 1 ≤ n → Srt lt (fn P) n → Idn (fn P) n N →
    (∀ m, n ≤ m → m ≤ N → Srt lt (fn P) m → (m < N → lt (fn P m) (fn P (m - 1)) = true) → Q m s) → (kas_asc P f n).kasWp cmp Q s
  | 0, n, hn, h1, hs, hi, h => h n (Nat.le_refl _) (by omega) hs (fun q => by omega)
  | f + 1, n, hn, h1, hs, hi, h => by
    refine hc _ _ _ (hP.bnd (by omega)) (hP.bnd (by omega)) ?_
    cases q : lt (P.getD n 0) (P.getD (n - 1) 0) with
    | true => exact h n (Nat.le_refl _) (by omega) hs fun _ => q
    | false =>
      refine asc_ok W hc hP f (n + 1) (by omega) (by omega) (hs.ext W h1 (.inr ⟨q, ?_⟩)) (hi.succ (by omega)) fun m a b c d => h m (by omega) b c d
      rw [hi.rest n (Nat.le_refl _) (by omega)]
      exact hi.low _ (by omega)

/-- falling so far, the last run of equals apart -/
structure Dsc (lt : Nat → Nat → Bool) (p : Nat → Nat) (b n : Nat) : Prop where
  i1 : ∀ i j, i < j → j < b → slt lt (p j) (p i)
  i2 : ∀ i j, i < b → b ≤ j → j < n → lt (p j) (p i) = true
  i3 : ∀ i j, b ≤ i → i < j → j < n → p i < p j ∧ lt (p i) (p j) = false ∧ lt (p j) (p i) = false
theorem Dsc.turn (W : SWO lt) {p p1 : Nat → Nat} {b n : Nat} (h : Dsc lt p b n) (hb : b < n) (e : ∀ k, p1 k = if b ≤ k ∧ k < n then p (b + n - 1 - k) else p k) : ∀ i j, i < j → j < n → slt lt (p1 j) (p1 i) := by
  intro i j hij hj
  rw [e, e]
  by_cases q : b ≤ j
  · rw [if_pos ⟨q, hj⟩]
    by_cases q2 : b ≤ i
    · rw [if_pos ⟨q2, by omega⟩]
      obtain ⟨a, b', c⟩ := h.i3 (b + n - 1 - j) (b + n - 1 - i) (by omega) (by omega) (by omega)
      exact .inr ⟨c, a⟩
    · rw [if_neg (by omega)]
      exact .inl (h.i2 i _ (by omega) (by omega) (by omega))
  · rw [if_neg (by omega), if_neg (by omega)]
    exact h.i1 i j hij (by omega)
theorem Dsc.next (W : SWO lt) {p p1 : Nat → Nat} {b n : Nat} (h : Dsc lt p b n) (hb : b < n) (e : ∀ k, p1 k = if b ≤ k ∧ k < n then p (b + n - 1 - k) else p k) (hl : lt (p n) (p (n - 1)) = true) : Dsc lt p1 n (n + 1) := by
  refine ⟨h.turn W hb e, fun i j hi hj hj' => ?_, fun i j a b' c => by omega⟩
  have : j = n := by omega
  subst this
  rw [e j, if_neg (by omega), e i]
  by_cases q : b ≤ i
  · rw [if_pos ⟨q, hi⟩]
    have : lt (p (b + j - 1 - i)) (p (j - 1)) = false := by
      by_cases z : b + j - 1 - i = j - 1
      · rw [z, W.irr]
      · exact (h.i3 _ (j - 1) (by omega) (by omega) (by omega)).2.1
    exact W.l1 hl this
  · rw [if_neg (by omega)]
    exact W.tr _ _ _ hl (h.i2 i (j - 1) (by omega) (by omega) (by omega))
theorem Dsc.more (W : SWO lt) {p : Nat → Nat} {b n N : Nat} (h : Dsc lt p b n) (hb : b < n) (hi : Idn p n N) (hn : n < N) (h1 : lt (p n) (p (n - 1)) = false) (h2 : lt (p (n - 1)) (p n) = false) : Dsc lt p b (n + 1) := by
  refine ⟨h.i1, fun i j a b' c => ?_, fun i j a b' c => ?_⟩
  · by_cases q : j < n
    · exact h.i2 i j a b' q
    · have : j = n := by omega
      subst this
      exact W.l2 h2 (h.i2 i (j - 1) a (by omega) (by omega))
  · by_cases q : j < n
    · exact h.i3 i j a b' q
    · have : j = n := by omega
      subst this
      refine ⟨by rw [hi.rest j (Nat.le_refl _) hn]; exact hi.low i b', ?_⟩
      by_cases z : i = j - 1
      · subst z; exact ⟨h2, h1⟩
      · obtain ⟨x, y, w⟩ := h.i3 i (j - 1) a (by omega) (by omega)
        exact ⟨W.nt _ _ _ y h2, W.nt _ _ _ h1 w⟩
theorem Idn.rev {P : Array Nat} {n b N : Nat} (hi : Idn (fn P) n N) (hP : PA P N) (hn : n ≤ N) : Idn (fn (kas_rev P b n)) n N := by
  refine ⟨fun k a c => ?_, fun k a => ?_⟩
  · rw [fn_rev (by rw [hP.sz]; exact hn), if_neg (by omega)]; exact hi.rest k a c
  · rw [fn_rev (by rw [hP.sz]; exact hn)]
    split
    · exact hi.low _ (by omega)
    · exact hi.low _ a

theorem desc_ok (W : SWO lt) (hc : ∀ i j C, i < N → j < N → C (lt i j) s → cmp i j C s) {Q : Array Nat × Nat × Nat → Shared → Prop} : ∀ f P n q, n + f = N → q + 1 ≤ n → PA P N → Idn (fn P) n N → Dsc lt (fn P) (n - (q + 1)) n →
    (∀ P' m q', n ≤ m → m ≤ N → q' + 1 ≤ m → PA P' N → Idn (fn P') m N → Dsc lt (fn P') (m - (q' + 1)) m → Q (P', m, q') s) → (kas_desc f P n q).kasWp cmp Q s
  | 0, P, n, q, hn, hq, hP, hi, hd, h => h P n q (Nat.le_refl _) (by omega) hq hP hi hd
  | f + 1, P, n, q, hn, hq, hP, hi, hd, h => by
    refine hc _ _ _ (hP.bnd (by omega)) (hP.bnd (by omega)) ?_
    cases c : lt (P.getD n 0) (P.getD (n - 1) 0) with
    | true =>
      simp only [if_true]
      split
      · rename_i q0
        have e := fn_rev (P := P) (i := n - (q + 1)) (j := n) (by rw [hP.sz]; omega)
        refine desc_ok W hc f _ (n + 1) 0 (by omega) (by omega) (hP.rev _ _) ((hi.rev hP (by omega)).succ (by omega)) ?_ fun P' m q' a b c d e g => h P' m q' (by omega) b c d e g
        exact hd.next W (by omega) e c
      · rename_i q0
        have q0 : q = 0 := by omega
        subst q0
        refine desc_ok W hc f _ (n + 1) 0 (by omega) (by omega) hP (hi.succ (by omega)) ?_ fun P' m q' a b c d e g => h P' m q' (by omega) b c d e g
        refine hd.next W (by omega) (fun k => ?_) c
        split
        · congr 1; omega
        · rfl
    | false =>
      simp only [Bool.false_eq_true, if_false]
      refine hc _ _ _ (hP.bnd (by omega)) (hP.bnd (by omega)) ?_
      cases c2 : lt (P.getD (n - 1) 0) (P.getD n 0) with
      | true =>
        simp only [if_true]
        exact h P n q (Nat.le_refl _) (by omega) hq hP hi hd
      | false =>
        simp only [Bool.false_eq_true, if_false]
        refine desc_ok W hc f P (n + 1) (q + 1) (by omega) (by omega) hP (hi.succ (by omega)) ?_ fun P' m q' a b c d e g => h P' m q' (by omega) b c d e g
        have : n + 1 - (q + 1 + 1) = n - (q + 1) := by omega
        rw [this]
        exact hd.more W (by omega) hi (by omega) c c2

theorem tail3_ok (W : SWO lt) (hc : ∀ i j C, i < N → j < N → C (lt i j) s → cmp i j C s) {P : Array Nat} {n : Nat} {Q : Nat × Array Nat → Shared → Prop} (h1 : 1 ≤ n) (hn : n ≤ N) (hP : PA P N) (hi : Idn (fn P) n N) (hd : ∀ i j, i < j → j < n → slt lt (fn P j) (fn P i))
    (h : ∀ m P', 1 ≤ m → m ≤ N → PA P' N → Idn (fn P') m N → Srt lt (fn P') m → Q (m, P') s) : (kas_tail3 n N P).kasWp cmp Q s := by
  unfold kas_tail3
  rw [KasT.kasWp_bind]
  have e := fn_rev (P := P) (i := 0) (j := n) (by rw [hP.sz]; omega)
  have hs : Srt lt (fn (kas_rev P 0 n)) n := fun i j a b => by
    rw [e, e, if_pos (by omega), if_pos (by omega)]
    exact hd _ _ (by omega) (by omega)
  refine asc_ok W hc (hP.rev 0 n) (N - n) n (by omega) h1 hs (hi.rev hP hn) fun m a b c d => ?_
  exact h m _ (by omega) b (hP.rev 0 n) ((hi.rev hP hn).mono m a b) c

theorem descPart_ok (W : SWO lt) (hc : ∀ i j C, i < N → j < N → C (lt i j) s → cmp i j C s) {P : Array Nat} {n : Nat} {Q : Nat × Array Nat → Shared → Prop} (hn : n + 1 ≤ N) (h1 : 1 ≤ n) (hP : PA P N) (hi : Idn (fn P) n N) (hd : Dsc lt (fn P) n (n + 1))
    (h : ∀ m P', 1 ≤ m → m ≤ N → PA P' N → Idn (fn P') m N → Srt lt (fn P') m → Q (m, P') s) : (kas_descPart n N P).kasWp cmp Q s := by
  unfold kas_descPart
  rw [KasT.kasWp_bind]
  refine desc_ok W hc (N - (n + 1)) P (n + 1) 0 (by omega) (by omega) hP (hi.succ (by omega)) (by simpa using hd) fun P' m q' a b c d e g => ?_
  dsimp only
  split
  · have ee := fn_rev (P := P') (i := m - (q' + 1)) (j := m) (by rw [d.sz]; omega)
    exact tail3_ok W hc (by omega) b (d.rev _ _) (e.rev d b) (g.turn W (by omega) ee) h
  · have q0 : q' = 0 := by omega
    subst q0
    refine tail3_ok W hc (by omega) b d e (g.turn W (by omega) fun k => ?_) h
    split
    · congr 1; omega
    · rfl

theorem count_ok (W : SWO lt) (hc : ∀ i j C, i < N → j < N → C (lt i j) s → cmp i j C s) {P : Array Nat} {Q : Nat × Array Nat → Shared → Prop} (h1 : 1 ≤ N) (hP : PA P N) (hi : Idn (fn P) 1 N)
    (h : ∀ m P', 1 ≤ m → m ≤ N → PA P' N → Idn (fn P') m N → Srt lt (fn P') m → Q (m, P') s) : (kas_count N P).kasWp cmp Q s := by
  unfold kas_count
  rw [KasT.kasWp_bind]
  refine asc_ok W hc hP (N - 1) 1 (by omega) (Nat.le_refl _) (fun i j a b => by omega) hi fun n a b c d => ?_
  have hin := hi.mono n a b
  split
  · exact h n P a b hP hin c
  · rename_i e
    have hlt : n < N := by
      have : n ≠ N := fun q => e (by simp [q])
      omega
    have dl := d hlt
    split
    · refine hc _ _ _ (hP.bnd (by omega)) (hP.bnd (by omega)) ?_
      cases c2 : lt (P.getD 0 0) (P.getD (n - 1) 0) with
      | true =>
        simp only [if_true]
        exact h n P a b hP hin c
      | false =>
        simp only [Bool.false_eq_true, if_false]
        have e := fn_rev (P := P) (i := 0) (j := n) (by rw [hP.sz]; omega)
        refine descPart_ok W hc hlt a (hP.rev 0 n) (hin.rev hP b) ⟨fun i j x y => ?_, fun i j x y z => ?_, fun i j x y z => by omega⟩ h
        · rw [e, e, if_pos (by omega), if_pos (by omega)]
          exact c _ _ (by omega) (by omega)
        · have : j = n := by omega
          subst this
          rw [e j, e i, if_neg (by omega), if_pos (by omega)]
          have k0 : lt (fn P (0 + j - 1 - i)) (fn P 0) = false := by
            by_cases z : 0 + j - 1 - i = 0
            · rw [z, W.irr]
            · exact (c 0 (0 + j - 1 - i) (by omega) (by omega)).not W
          exact W.l1 dl (W.nt _ _ _ k0 c2)
    · have : n = 1 := by omega
      subst this
      refine descPart_ok W hc hlt a hP hin ⟨fun i j x y => by omega, fun i j x y z => ?_, fun i j x y z => by omega⟩ h
      have e1 : j = 1 := by omega
      have e2 : i = 0 := by omega
      subst e1 e2
      exact dl

theorem place_ok (W : SWO lt) (hc : ∀ i j C, i < N → j < N → C (lt i j) s → cmp i j C s) {P : Array Nat} {k : Nat} {Q : Nat → Shared → Prop} (hP : PA P N) (hk : k < N) (hs : Srt lt (fn P) k) : ∀ f l r, l ≤ r → r ≤ k → r - l ≤ f →
    (∀ i, i < l → lt (fn P k) (fn P i) = false) → (∀ i, r ≤ i → i < k → lt (fn P k) (fn P i) = true) →
    (∀ l, l ≤ k → (∀ i, i < l → lt (fn P k) (fn P i) = false) → (∀ i, l ≤ i → i < k → lt (fn P k) (fn P i) = true) → Q l s) → (kas_place P k f l r).kasWp cmp Q s
  | 0, l, r, h1, h2, h3, a, b, h => h l (by omega) a fun i x y => b i (by omega) y
  | f + 1, l, r, h1, h2, h3, a, b, h => by
    unfold kas_place
    split
    · exact h l (by omega) a fun i x y => b i (by omega) y
    · refine hc _ _ _ (hP.bnd hk) (hP.bnd (by omega)) ?_
      cases c : lt (P.getD k 0) (P.getD ((l + r) / 2) 0) with
      | true =>
        simp only [if_true]
        refine place_ok W hc hP hk hs f l ((l + r) / 2) (by omega) (by omega) (by omega) a (fun i x y => ?_) h
        by_cases z : i = (l + r) / 2
        · subst z; exact c
        · exact W.l1 c ((hs ((l + r) / 2) i (by omega) y).not W)
      | false =>
        simp only [Bool.false_eq_true, if_false]
        refine place_ok W hc hP hk hs f ((l + r) / 2 + 1) r (by omega) h2 (by omega) (fun i x => ?_) b h
        by_cases z : i = (l + r) / 2
        · subst z; exact c
        · exact W.nt _ _ _ c ((hs i ((l + r) / 2) (by omega) (by omega)).not W)
theorem bub_srt (W : SWO lt) {P : Array Nat} {k l : Nat} (hP : PA P N) (hk : k < N) (hs : Srt lt (fn P) k) (hi : Idn (fn P) k N) (hl : l ≤ k) (a : ∀ i, i < l → lt (fn P k) (fn P i) = false) (b : ∀ i, l ≤ i → i < k → lt (fn P k) (fn P i) = true) :
    Srt lt (fn (bubble P k (k - l))) (k + 1) ∧ Idn (fn (bubble P k (k - l))) (k + 1) N := by
  have e : ∀ i, fn (bubble P k (k - l)) i = if i = l then fn P k else if l < i ∧ i ≤ k then fn P (i - 1) else fn P i := fun i => by
    have e := fn_bubble (P := P) (k := k) (d := k - l) (by rw [hP.sz]; exact hk) (by omega) i
    have : k - (k - l) = l := by omega
    rwa [this] at e
  refine ⟨fun i j hij hj => ?_, fun i x y => ?_, fun i x => ?_⟩
  · rw [e i, e j]
    by_cases q1 : j = l
    · rw [if_pos q1, if_neg (by omega), if_neg (by omega)]
      refine .inr ⟨a i (by omega), ?_⟩
      rw [hi.rest k (Nat.le_refl _) hk]; exact hi.low i (by omega)
    · rw [if_neg q1]
      by_cases q2 : i = l
      · rw [if_pos q2, if_pos (by omega)]
        exact .inl (b (j - 1) (by omega) (by omega))
      · rw [if_neg q2]
        by_cases q3 : l < i ∧ i ≤ k
        · rw [if_pos q3, if_pos (by omega)]; exact hs _ _ (by omega) (by omega)
        · rw [if_neg q3]
          by_cases q4 : l < j ∧ j ≤ k
          · rw [if_pos q4]; exact hs _ _ (by omega) (by omega)
          · rw [if_neg q4]; exact hs _ _ hij (by omega)
  · rw [e i, if_neg (by omega), if_neg (by omega)]; exact hi.rest i (by omega) y
  · rw [e i]
    split
    · rw [hi.rest k (Nat.le_refl _) hk]; omega
    · split
      · have := hi.low (i - 1) (by omega); omega
      · have := hi.low i (by omega); omega
theorem bin_ok (W : SWO lt) (hc : ∀ i j C, i < N → j < N → C (lt i j) s → cmp i j C s) {Q : Array Nat → Shared → Prop} : ∀ f P k, k + f = N → PA P N → Srt lt (fn P) k → Idn (fn P) k N →
    (∀ P', PA P' N → Srt lt (fn P') N → Q P' s) → (kas_bin f P k).kasWp cmp Q s
  | 0, P, k, hk, hP, hs, hi, h => h P hP (by have : k = N := by omega
                                             subst this; exact hs)
  | f + 1, P, k, hk, hP, hs, hi, h => by
    unfold kas_bin
    rw [KasT.kasWp_bind]
    refine place_ok W hc hP (by omega) hs k 0 k (Nat.zero_le _) (Nat.le_refl _) (by omega) (fun i x => by omega) (fun i x y => by omega) fun l hl a b => ?_
    obtain ⟨s1, i1⟩ := bub_srt W hP (by omega) hs hi hl a b
    exact bin_ok W hc f _ (k + 1) (by omega) (hP.bub _ _) s1 i1 h
theorem sort_ok (W : SWO lt) (hc : ∀ i j C, i < N → j < N → C (lt i j) s → cmp i j C s) {Q : Array Nat → Shared → Prop} (h1 : 1 ≤ N)
    (h : ∀ P', P'.toList.Perm (List.range N) → P'.toList.Pairwise (slt lt) → Q P' s) : (kas_sort N).kasWp cmp Q s := by
  have fin : ∀ P', PA P' N → Srt lt (fn P') N → Q P' s := fun P' hP hs => by
    refine h P' hP.pm (List.pairwise_iff_getElem.mpr fun i j hi hj hij => ?_)
    have hz := hP.sz
    simp only [Array.length_toList] at hi hj
    have := hs i j hij (by omega)
    have e : ∀ k (hk : k < P'.size), fn P' k = P'[k] := fun k hk => by simp [fn, Array.getD, hk]
    rw [e i hi, e j hj] at this
    simpa using this
  unfold kas_sort
  rw [KasT.kasWp_bind]
  have hP0 : PA (List.toArray (List.range N)) N := ⟨by simp, by simp⟩
  have e0 : ∀ k, k < N → fn (List.toArray (List.range N)) k = k := fun k hk => by simp [fn, Array.getD, hk]
  refine count_ok W hc h1 hP0 ⟨fun k a b => e0 k b, fun k a => by rw [e0 k (by omega)]; exact a⟩ fun m P' a b c d e => ?_
  dsimp only
  split
  · have hm : max m 1 = m := by omega
    rw [hm]
    exact bin_ok W hc (N - m) P' m (by omega) c e d fin
  · have : m = N := by omega
    subst this
    exact fin P' c e
end
end Mine

set_option autoImplicit false
set_option linter.unusedVariables false
set_option maxRecDepth 100000
namespace Mine
open PySem PySem.W PySem.SeqAt PyProof.Rows

/- pairs of numbers in their order -/
def pv (p : Int × Int) : V := .tup [.int p.1, .int p.2]
def lexlt (p q : Int × Int) : Bool := decide (p.1 < q.1) || (p.1 == q.1 && decide (p.2 < q.2))
theorem lexlt_iff {p q : Int × Int} : lexlt p q = true ↔ p.1 < q.1 ∨ (p.1 = q.1 ∧ p.2 < q.2) := by simp [lexlt]
theorem lexlt_false {p q : Int × Int} : lexlt p q = false ↔ q.1 < p.1 ∨ (q.1 = p.1 ∧ q.2 ≤ p.2) := by
  rw [← Bool.not_eq_true, lexlt_iff]; omega
theorem lexSWO (f : Nat → Int × Int) : SWO (fun i j => lexlt (f i) (f j)) := by
  refine ⟨fun i => ?_, fun i j k => ?_, fun i j k => ?_⟩
  · rw [lexlt_false]; omega
  · simp only [lexlt_iff]; omega
  · simp only [lexlt_false]; omega
section
variable {prog : Program} {w : World} {A : Around} {E : Value → Shared → Prop} {s : Shared}
theorem VR.pv_at {h : Heap} {v : Value} {p : Int × Int} (r : VR h v (pv p)) : ∃ a t u n, v = .ref a ∧ h.get? a = some (tupObj #[.int p.1 t, .int p.2 u] n) := by
  unfold pv at r
  cases r with
  | @tup a items n _ e rs =>
    obtain ⟨l⟩ := items
    cases rs with
    | cons r1 r2 =>
    cases r2 with
    | cons r2 r3 =>
    cases r3; cases r1; cases r2
    exact ⟨_, _, _, _, rfl, e⟩
theorem pair_lt {a b : Addr} {x y x' y' : Int} {t u t' u' : Tok} {n k : Nat} {Q : Value → Shared → Prop} (ha : s.heap.get? a = some (tupObj #[.int x t, .int y u] n)) (hb : s.heap.get? b = some (tupObj #[.int x' t', .int y' u'] k)) (hu : A.units < cLine)
    (h : Q (.bool (lexlt (x, y) (x', y'))) s) : wpAny (model prog w) A (richCompare .Lt (.ref a) (.ref b)) Q E s := by
  refine wpAny_richCompare_same_room (T := "tuple") (id := "tuple.__lt__") ⟨_, ha, rfl⟩ ⟨_, hb, rfl⟩ PySem.F.slot_tuple_lt ?_ hu
  refine wpAny_call_entry PySem.F.slot_tuple_lt ⟨_, ha, rfl⟩ PySem.F.entry_tuple_lt ?_ (PySem.F.args_tuple_lt_2 _ _)
  show wpAny _ _ (isInstance (.ref b) (.type "tuple") >>= _) _ _ s
  refine wpAny_bind (wpAny_isInstance ⟨_, hb, rfl⟩ isSubtype_tuple_tuple ?_)
  simp only [Bool.not_true, Bool.false_eq_true, if_false]
  refine wpAny_bind (wpAny_tupleItemsOf ha rfl ?_)
  refine wpAny_bind (wpAny_tupleItemsOf hb rfl ?_)
  refine wpAny_bind ?_
  simp only [List.zip_cons_cons, List.zip_nil_right, List.forIn_cons, List.forIn_nil]
  refine wpAny_bind (wpAny_bind (wpAny_eqBool_int ?_))
  by_cases q : x = x'
  · subst q
    have e1 : (x == x) = true := beq_self_eq_true _
    simp only [e1, Bool.not_true, Bool.false_eq_true, if_false]
    refine wpAny_pure ?_
    refine wpAny_bind (wpAny_bind (wpAny_eqBool_int ?_))
    by_cases q2 : y = y'
    · subst q2
      have e2 : (y == y) = true := beq_self_eq_true _
      simp only [e2, Bool.not_true, Bool.false_eq_true, if_false]
      refine wpAny_pure (wpAny_pure (wpAny_pure ⟨_, rfl, fun z => (nomatch z), ?_⟩))
      have : (lexlt (x, y) (x, y)) = false := by simp [lexlt]
      rw [this] at h; exact h
    · have e2 : (y == y') = false := beq_eq_false_iff_ne.mpr q2
      simp only [e2, Bool.not_false, if_true]
      refine wpAny_bind (wpAny_rule (wpAny_bind (PySem.P.lt_int (wpAny_bind (wpAny_pure (wpAny_pure (wpAny_pure (wpAny_pure ⟨_, rfl, fun z => (nomatch z), ?_⟩))))))))
      have : (lexlt (x, y) (x, y')) = decide (y < y') := by rw [Bool.eq_iff_iff]; simp [lexlt] <;> omega
      rw [this] at h; exact h
  · have e1 : (x == x') = false := beq_eq_false_iff_ne.mpr q
    simp only [e1, Bool.not_false, if_true]
    refine wpAny_bind (wpAny_rule (wpAny_bind (PySem.P.lt_int (wpAny_bind (wpAny_pure (wpAny_pure (wpAny_pure (wpAny_pure ⟨_, rfl, fun z => (nomatch z), ?_⟩))))))))
    have : (lexlt (x, y) (x', y')) = decide (x < x') := by rw [Bool.eq_iff_iff]; simp [lexlt] <;> omega
    rw [this] at h; exact h
theorem pair_ge {a b : Addr} {x y x' y' : Int} {t u t' u' : Tok} {n k : Nat} {Q : Value → Shared → Prop} (ha : s.heap.get? a = some (tupObj #[.int x t, .int y u] n)) (hb : s.heap.get? b = some (tupObj #[.int x' t', .int y' u'] k)) (hu : A.units < cLine)
    (h : Q (.bool (!lexlt (x, y) (x', y'))) s) : wpAny (model prog w) A (richCompare .GtE (.ref a) (.ref b)) Q E s := by
  refine wpAny_richCompare_same_room (T := "tuple") (id := "tuple.__ge__") ⟨_, ha, rfl⟩ ⟨_, hb, rfl⟩ PySem.F.slot_tuple_ge ?_ hu
  refine wpAny_call_entry PySem.F.slot_tuple_ge ⟨_, ha, rfl⟩ PySem.F.entry_tuple_ge ?_ (PySem.F.args_tuple_ge_2 _ _)
  show wpAny _ _ (isInstance (.ref b) (.type "tuple") >>= _) _ _ s
  refine wpAny_bind (wpAny_isInstance ⟨_, hb, rfl⟩ isSubtype_tuple_tuple ?_)
  simp only [Bool.not_true, Bool.false_eq_true, if_false]
  refine wpAny_bind (wpAny_tupleItemsOf ha rfl ?_)
  refine wpAny_bind (wpAny_tupleItemsOf hb rfl ?_)
  refine wpAny_bind ?_
  simp only [List.zip_cons_cons, List.zip_nil_right, List.forIn_cons, List.forIn_nil]
  refine wpAny_bind (wpAny_bind (wpAny_eqBool_int ?_))
  by_cases q : x = x'
  · subst q
    have e1 : (x == x) = true := beq_self_eq_true _
    simp only [e1, Bool.not_true, Bool.false_eq_true, if_false]
    refine wpAny_pure ?_
    refine wpAny_bind (wpAny_bind (wpAny_eqBool_int ?_))
    by_cases q2 : y = y'
    · subst q2
      have e2 : (y == y) = true := beq_self_eq_true _
      simp only [e2, Bool.not_true, Bool.false_eq_true, if_false]
      refine wpAny_pure (wpAny_pure (wpAny_pure ⟨_, rfl, fun z => (nomatch z), ?_⟩))
      have : (!lexlt (x, y) (x, y)) = true := by simp [lexlt]
      rw [this] at h; exact h
    · have e2 : (y == y') = false := beq_eq_false_iff_ne.mpr q2
      simp only [e2, Bool.not_false, if_true]
      refine wpAny_bind (wpAny_rule (wpAny_bind (PySem.P.ge_int (wpAny_bind (wpAny_pure (wpAny_pure (wpAny_pure (wpAny_pure ⟨_, rfl, fun z => (nomatch z), ?_⟩))))))))
      have : (!lexlt (x, y) (x, y')) = decide (y' ≤ y) := by rw [Bool.eq_iff_iff]; simp [lexlt] <;> omega
      rw [this] at h; exact h
  · have e1 : (x == x') = false := beq_eq_false_iff_ne.mpr q
    simp only [e1, Bool.not_false, if_true]
    refine wpAny_bind (wpAny_rule (wpAny_bind (PySem.P.ge_int (wpAny_bind (wpAny_pure (wpAny_pure (wpAny_pure (wpAny_pure ⟨_, rfl, fun z => (nomatch z), ?_⟩))))))))
    have : (!lexlt (x, y) (x', y')) = decide (x' ≤ x) := by rw [Bool.eq_iff_iff]; simp [lexlt] <;> omega
    rw [this] at h; exact h
end
def PairAt (h : Heap) (v : Value) (p : Int × Int) : Prop := ∃ a t u n, v = .ref a ∧ h.get? a = some (tupObj #[.int p.1 t, .int p.2 u] n)
section
variable {prog : Program} {w : World} {A : Around} {E : Value → Shared → Prop} {s : Shared}
theorem min_loop {base : Heap} {I S l : Addr} {items : Array Value} {ps : List (Int × Int)} {R : Result → Shared → Prop} (hh : A.handled = none) (hu : A.units + 1 < cLine) (hI : base.objs.size ≤ I) (hS : base.objs.size ≤ S) (hIS : I ≠ S)
    (hl : base.IsList l items) (hz : items.size = ps.length) (hr : ∀ (i : Nat) (v : Value) (p : Int × Int), items[i]? = some v → ps[i]? = some p → PairAt base v p) :
    ∀ (k j : Nat) (s : Shared) (vb : Value) (c : Nat) (p : Int × Int), ps.length - (j + 1) = k → j + 1 ≤ ps.length → s.heap.IsListIter I l (j + 1) → (∀ b o, base.get? b = some o → s.heap.get? b = some o) →
    s.heap.get? S = some { cls := .type "list", dict := none, data := .seq #[vb, vb] c, slots := #[] } → PairAt base vb p → (∃ i : Nat, i < ps.length ∧ items[i]? = some vb ∧ ps[i]? = some p) → (∀ q ∈ ps.take (j + 1), lexlt q p = false) →
    (∀ v p h' tk, (∃ i : Nat, i < ps.length ∧ items[i]? = some v ∧ ps[i]? = some p) → (∀ q ∈ ps, lexlt q p = false) → (∀ b o, base.get? b = some o → h'.get? b = some o) → R (.ok (.ret v)) { s with heap := h', toks := tk }) →
    codeAny (model prog w) A (.builtin "min.loop" ⟨[.ref I, .none, .ref S], []⟩) R s := by
  have hname : (toString "min" ++ toString ".loop" : String) = "min.loop" := by decide
  have hlI : l ≠ I := by obtain ⟨o, e, _⟩ := hl; exact Nat.ne_of_lt (Nat.lt_of_lt_of_le (Heap.lt_size e) hI)
  have W := Walks.list (prog := prog) (w := w) (A := A.in1) hh I l hlI items
  have up : ∀ {h h' : Heap}, (∀ b o, base.get? b = some o → h.get? b = some o) → (∀ b o, b ∉ [I] → h.get? b = some o → h'.get? b = some o) → ∀ b o, base.get? b = some o → h'.get? b = some o := fun a b' c o e =>
    b' c o (fun q => by rw [List.mem_singleton.mp q] at e; exact absurd (Heap.lt_size e) (Nat.not_lt.mpr hI)) (a c o e)
  have upS : ∀ {h : Heap} {f : Obj → Obj}, (∀ b o, base.get? b = some o → h.get? b = some o) → ∀ b o, base.get? b = some o → (h.update S f).get? b = some o := fun a c o e =>
    (Heap.get?_update_other _ _ (fun q : S = c => by rw [← q] at e; exact absurd (Heap.lt_size e) (Nat.not_lt.mpr hS))).trans (a c o e)
  have hSI : S ∉ [I] := fun q => hIS (List.mem_singleton.mp q).symm
  intro k
  induction k with
  | zero =>
    intro j s vb c p hk hj hit hb hSo hp hin hmin hR
    have hjn : j + 1 = items.size := by omega
    refine codeAny_builtin F.entry_min_loop ?_
    rw [Around.under_plainId F.plain_min_loop _]
    show wpAny _ A.in1 (seqItems? (.ref S) >>= _) _ _ s
    refine wpAny_bind (wpAny_seqItems hSo rfl ?_)
    show wpAny _ A.in1 (tryCatch (pyNext (.ref I)) _ >>= _) _ _ s
    refine wpAny_bind (wpAny_tryCatch (W.done s _ _ ⟨hjn ▸ hit, hl.at fun o e => hb _ _ e⟩ fun h' tk hk' => ?_))
    have hS' := hk' S _ hSI hSo
    show wpAny _ A.in1 (updateSeq S (fun _ => #[]) >>= _) _ _ _
    refine wpAny_bind ?_
    refine wpAny_updateSeq hS' rfl (wpAny_bind (wpAny_letGo (wpAny_pure ?_)))
    refine hR vb p _ tk hin (fun q hq => hmin q ?_) (upS (up hb hk'))
    rw [List.take_of_length_le (by omega)]; exact hq
  | succ k ih =>
    intro j s vb c p hk hj hit hb hSo hp hin hmin hR
    have hlt : j + 1 < items.size := by omega
    refine codeAny_builtin F.entry_min_loop ?_
    rw [Around.under_plainId F.plain_min_loop _]
    show wpAny _ A.in1 (seqItems? (.ref S) >>= _) _ _ s
    refine wpAny_bind (wpAny_seqItems hSo rfl ?_)
    show wpAny _ A.in1 (tryCatch (pyNext (.ref I)) _ >>= _) _ _ s
    refine wpAny_bind (wpAny_tryCatch (W.item (j + 1) s _ _ hlt ⟨hit, hl.at fun o e => hb _ _ e⟩ fun v h' tk hP hst' hk' => ?_))
    have hS' := hk' S _ hSI hSo
    have hb' := up hb hk'
    have hlt' : j + 1 < ps.length := by omega
    obtain ⟨q, hq⟩ : ∃ q, ps[j + 1]? = some q := ⟨_, List.getElem?_eq_getElem hlt'⟩
    obtain ⟨a1, t1, u1, n1, rfl, e1⟩ := hr _ _ _ hP hq
    obtain ⟨a2, t2, u2, n2, rfl, e2⟩ := hp
    have take_succ : ∀ r ∈ ps.take (j + 1 + 1), r ∈ ps.take (j + 1) ∨ r = q := fun r hr' => by
      rw [List.take_add_one, hq] at hr'
      simpa using hr'
    show wpAny _ A.in1 (tryCatch (holding [_, _] (richCompare .Lt (.ref a1) (.ref a2) >>= _)) _ >>= _) _ _ _
    refine wpAny_bind (wpAny_tryCatch (wpAny_holding (wpAny_bind (pair_lt (hb' _ _ e1) (hb' _ _ e2) hu ?_))))
    refine wpAny_bind (wpAny_holding (wpAny_truthy_bool ?_))
    refine wpAny_bind (wpAny_letGo (wpAny_pure ?_))
    cases hc : lexlt (q.1, q.2) (p.1, p.2) with
    | true =>
      simp only [if_true]
      refine wpAny_bind ?_
      refine wpAny_updateSeq hS' rfl (wpAny_bind (wpAny_letGo ?_))
      rw [hname]
      refine wpAny_pure ⟨plainId_quiet F.plain_min_loop _, ih (j + 1) _ (.ref a1) _ q (by omega) hlt' ((hst'.1).at fun o e => (Heap.get?_update_other _ _ (Ne.symm hIS)).trans e) (upS hb') (Heap.get?_update_self _ hS' rfl) ⟨a1, t1, u1, n1, rfl, e1⟩ ⟨j + 1, hlt', hP, hq⟩ (fun r hr' => ?_) fun v' p' h'' tk'' x1 x2 x3 => hR v' p' h'' tk'' x1 x2 x3⟩
      rcases take_succ r hr' with z | z
      · have := hmin r z
        rw [lexlt_false] at this ⊢
        rw [lexlt_iff] at hc
        omega
      · subst z; rw [lexlt_false]; omega
    | false =>
      simp only [Bool.false_eq_true, if_false]
      refine wpAny_bind (wpAny_letGo ?_)
      rw [hname]
      refine wpAny_pure ⟨plainId_quiet F.plain_min_loop _, ih (j + 1) _ (.ref a2) c p (by omega) hlt' hst'.1 hb' hS' ⟨a2, t2, u2, n2, rfl, e2⟩ hin (fun r hr' => ?_) fun v' p' h'' tk'' x1 x2 x3 => hR v' p' h'' tk'' x1 x2 x3⟩
      rcases take_succ r hr' with z | z
      · exact hmin r z
      · subst z; exact hc
theorem call_min_pairs {l : Addr} {items : Array Value} {ps : List (Int × Int)} {Q : Value → Shared → Prop} (hh : A.handled = none) (hu : A.units + 1 < cLine) (hl : s.heap.IsList l items) (hz : items.size = ps.length) (hne : 0 < ps.length)
    (hr : ∀ (i : Nat) (v : Value) (p : Int × Int), items[i]? = some v → ps[i]? = some p → PairAt s.heap v p)
    (h : ∀ v p h' tk, (∃ i : Nat, i < ps.length ∧ items[i]? = some v ∧ ps[i]? = some p) → (∀ q ∈ ps, lexlt q p = false) → (∀ b o, s.heap.get? b = some o → h'.get? b = some o) → Q v { s with heap := h', toks := tk }) :
    wpAny (model prog w) A (call (.builtin "min") [.ref l]) Q E s := by
  have hname : (toString "min" ++ toString ".loop" : String) = "min.loop" := by decide
  have hlt : l < s.heap.objs.size := by obtain ⟨o, e, _⟩ := hl; exact Heap.lt_size e
  refine call_function_tree F.kind_min F.plain_min F.entry_min (F.args_min1 _) ?_
  show wpAny _ A.in1 (Builtin.Builtins.bindParams "min" ["key", "default"] 0 ⟨[], []⟩ >>= _) _ _ s
  refine wpAny_bind (wpAny_of_eq (show Builtin.Builtins.bindParams "min" ["key", "default"] 0 ⟨[], []⟩ = pure [none, none] from rfl) ?_)
  refine wpAny_bind (wpAny_pure ?_)
  refine wpAny_bind (wpAny_pyIter_list hl ?_)
  refine wpAny_bind (wpAny_newObj_type ?_)
  rw [hname]
  refine wpAny_pure ⟨plainId_quiet F.plain_min_loop _, ?_⟩
  generalize hH : (s.heap.push _).push _ = H
  have hIt : H.IsListIter s.heap.objs.size l 0 := by rw [← hH]; exact ⟨_, Heap.get?_push_of_some _ (Heap.get?_push_size _ rfl), rfl, rfl⟩
  have hSz : ∀ o : Obj, (s.heap.push o).objs.size = s.heap.objs.size + 1 := fun o => Heap.size_push ..
  rw [hSz]
  have hSo : H.get? (s.heap.objs.size + 1) = some { cls := .type "list", dict := none, data := .seq #[] 0, slots := #[] } := by rw [← hH, ← hSz]; exact Heap.get?_push_size _ rfl
  have hb : ∀ b o, s.heap.get? b = some o → H.get? b = some o := fun b o e => by rw [← hH]; exact Heap.get?_push_of_some _ (Heap.get?_push_of_some _ e)
  have W := Walks.list (prog := prog) (w := w) (A := A.in1) hh s.heap.objs.size l (Nat.ne_of_lt hlt) items
  have hSI : s.heap.objs.size + 1 ∉ [s.heap.objs.size] := fun q => by have := List.mem_singleton.mp q; omega
  refine codeAny_builtin F.entry_min_loop ?_
  rw [Around.under_plainId F.plain_min_loop _]
  show wpAny _ A.in1 (seqItems? (.ref (s.heap.objs.size + 1)) >>= _) _ _ _
  refine wpAny_bind (wpAny_seqItems hSo rfl ?_)
  show wpAny _ A.in1 (tryCatch (pyNext (.ref s.heap.objs.size)) _ >>= _) _ _ _
  refine wpAny_bind (wpAny_tryCatch (W.item 0 _ _ _ (by omega) ⟨hIt, hl.at fun o e => hb _ _ e⟩ fun v h' tk hP hst' hk' => ?_))
  have hS' := hk' _ _ hSI hSo
  show wpAny _ A.in1 (updateSeq (s.heap.objs.size + 1) (fun _ => #[v, v]) >>= _) _ _ _
  refine wpAny_bind ?_
  refine wpAny_updateSeq hS' rfl ?_
  rw [hname]
  obtain ⟨q, hq⟩ : ∃ q, ps[0]? = some q := ⟨_, List.getElem?_eq_getElem hne⟩
  refine wpAny_pure ⟨plainId_quiet F.plain_min_loop _, min_loop (base := s.heap) hh hu (Nat.le_refl _) (Nat.le_succ _) (Nat.ne_of_lt (Nat.lt_succ_self _)) hl hz hr _ 0 _ v _ q rfl hne ((hst'.1).at fun o e => (Heap.get?_update_other _ _ (Nat.succ_ne_self _)).trans e) (fun b o e => ?_) (Heap.get?_update_self _ hS' rfl) (hr _ _ _ hP hq) ⟨0, hne, hP, hq⟩ (fun r hr' => ?_) fun v' p' h'' tk'' x1 x2 x3 => h v' p' h'' tk'' x1 x2 x3⟩
  · exact (Heap.get?_update_other _ _ (Nat.ne_of_gt (Nat.lt_succ_of_lt (Heap.lt_size e)))).trans (hk' b o (fun q => absurd (List.mem_singleton.mp q) (Nat.ne_of_lt (Heap.lt_size e))) (hb b o e))
  · rw [List.take_add_one, hq] at hr'
    have : r = q := by simpa using hr'
    subst this; rw [lexlt_false]; omega
end
/- sorted() -/
section
variable {prog : Program} {w : World} {A : Around} {E : Value → Shared → Prop} {s : Shared}
theorem sort_tree {a : Addr} {vs : List Value} {n : Nat} {lt : Nat → Nat → Bool} {P : PySem.Fin → Shared → Prop} (W : SWO lt) (ho : s.heap.get? a = some (seqObj "list" vs.toArray n)) (h64 : vs.length < 64)
    (hk : ∀ h' : Heap, 2 ≤ vs.length → (∀ b o, b ≠ a → s.heap.get? b = some o → h'.get? b = some o) → ∃ κ, (∀ Q : SortKind → Shared → Prop, Q κ { s with heap := h' } → wpAny (model prog w) A (keyKind' vs.toArray) Q E { s with heap := h' }) ∧
      ∀ i j C, i < vs.length → j < vs.length → C (lt i j) { s with heap := h' } → kas_ask prog w A κ vs i j C { s with heap := h' })
    (h : ∀ (h' : Heap) (p : List Nat), (∀ b o, b ≠ a → s.heap.get? b = some o → h'.get? b = some o) → h'.PlainList a (p.map fun i => vs.getD i Value.none).toArray → p.Perm (List.range vs.length) → p.Pairwise (slt lt) → P (.done (.ret .none)) { s with heap := h' }) :
    wpAny (model prog w) A (Builtin.«list.sort» ⟨[.ref a], []⟩) P E s := by
  have ha : a < s.heap.objs.size := Heap.lt_size ho
  rw [list_sort_plain]
  refine wpAny_bind (listItems_at ho rfl ?_)
  refine wpAny_bind (listUpdate_at ho rfl ?_ (by rw [List.size_toArray, sizeLine_eq]; omega) (Nat.zero_le _))
  obtain ⟨e1, ho1⟩ : ∃ e1, (s.heap.update a (Obj.mapSeq fun _ => (#[] : Array Value))).get? a = some (seqObj "list" #[] e1) := ⟨_, get?_update_seq ho fun _ => #[]⟩
  refine wpAny_bind (seqEpoch_at ho1 rfl ?_)
  refine wpAny_bind (wpAny_newTuple ?_ (by show vs.length ≤ _; rw [sizeLine_eq]; omega))
  refine wpAny_bind (wpAny_newList ?_ (Nat.zero_le _))
  refine wpAny_holding ?_
  generalize hH : ((s.heap.update a (Obj.mapSeq fun _ => (#[] : Array Value))).push (seqObj "tuple" vs.toArray 0)).push (seqObj "list" #[] 0) = H
  have hHa : H.get? a = some (seqObj "list" #[] e1) := by rw [← hH]; exact Heap.get?_push_of_some _ (Heap.get?_push_of_some _ ho1)
  have hHk : ∀ b o, b ≠ a → s.heap.get? b = some o → H.get? b = some o := fun b o q e => by
    rw [← hH]; exact Heap.get?_push_of_some _ (Heap.get?_push_of_some _ ((Heap.get?_update_other _ _ (Ne.symm q)).trans e))
  show wpAny (model prog w) A _ P E { s with heap := H }
  dsimp only
  have fin : ∀ (p : List Nat) (out : Array Value), out = (p.map fun i => vs.getD i Value.none).toArray → p.Perm (List.range vs.length) → p.Pairwise (slt lt) → P (.done (.ret .none)) { s with heap := H.update a (Obj.mapSeq fun _ => out) } := fun p out e hp hs => by
    subst e
    refine h _ p (fun b o q e => (Heap.get?_update_other _ _ (Ne.symm q)).trans (hHk b o q e)) ⟨_, get?_update_seq hHa fun _ => _⟩ hp hs
  by_cases h2 : vs.toArray.size < 2
  · rw [if_pos h2, if_pos h2]
    rw [List.size_toArray] at h2
    refine wpAny_bind (wpAny_pure ?_)
    rw [StateT.run_pure]
    refine wpAny_bind (wpAny_pure ?_)
    dsimp only
    refine wpAny_bind (seqEpoch_at hHa rfl ?_)
    have e : (arrOf (SortSt.mk' general' (vs.toArray.zip vs.toArray) #[] 7 none)).map (·.2) = vs.toArray := by
      show (vs.toArray.zip vs.toArray).map (·.2) = vs.toArray
      apply Array.toList_inj.mp
      simp [List.map_snd_zip]
    refine wpAny_bind (listUpdate_at hHa rfl ?_ (Nat.zero_le _) (by rw [e, List.size_toArray, sizeLine_eq]; omega))
    simp only [bne_self_eq_false, Bool.false_eq_true, if_false]
    refine wpAny_pure (fin (List.range vs.length) _ ?_ (List.Perm.refl _) ?_)
    · rw [e]
      apply Array.toList_inj.mp
      refine List.ext_getElem (by simp) fun i h1 h2 => ?_
      simp at h1
      simp [h1]
    · match vs, h2 with
      | [], _ => exact .nil
      | [v], _ => exact .cons (fun _ q => (nomatch q)) .nil
      | _ :: _ :: _, h2 => simp at h2; omega
  · rw [if_neg h2, if_neg h2]
    rw [List.size_toArray] at h2
    obtain ⟨κ, k1, k2⟩ := hk H (by omega) hHk
    refine wpAny_bind (k1 _ ?_)
    have run : (kas_sort vs.length).kasWp (kas_ask prog w A κ vs) (fun p s' => s' = { s with heap := H } ∧ p.toList.Perm (List.range vs.length) ∧ p.toList.Pairwise (slt lt)) { s with heap := H } :=
      sort_ok W (fun i j C hi hj hC => k2 i j C hi hj hC) (by omega) fun P' hp hs => ⟨rfl, hp, hs⟩
    refine wpAny_bind (wpAny_mono (kat_run (ks := vs) (vs := vs) (Q := fun st' s' => s' = { s with heap := H } ∧ ∃ p : Array Nat, arrOf st' = p.map (kas_item (vs.toArray.zip vs.toArray)) ∧ failedOf st' = none ∧ p.toList.Perm (List.range vs.length) ∧ p.toList.Pairwise (slt lt))
      rfl (by omega) h64 (fun p st' s' a1 a2 a3 a4 => ⟨a4.1, p, a2, a3, a4.2⟩) run) ?_ fun _ _ e => e)
    rintro ⟨⟨⟩, st'⟩ s' ⟨rfl, p, har, hf, hp, hs⟩
    dsimp only
    have hout := kat_snds (ks := vs) (vs := vs) rfl har
    rw [hout]
    refine wpAny_bind (seqEpoch_at hHa rfl ?_)
    refine wpAny_bind (listUpdate_at hHa rfl ?_ (Nat.zero_le _) (by have := hp.length_eq; simp only [List.length_range] at this; rw [List.size_toArray, List.length_map, this, sizeLine_eq]; omega))
    rw [hf]
    simp only [bne_self_eq_false, Bool.false_eq_true, if_false]
    exact wpAny_pure (fin p.toList _ rfl hp hs)
theorem sorted_raw {l : Addr} {vs : List Value} {lt : Nat → Nat → Bool} {Q : Value → Shared → Prop} (W : SWO lt) (hl : s.heap.IsList l vs.toArray) (h64 : vs.length < 64)
    (hk : ∀ h' : Heap, 2 ≤ vs.length → (∀ b o, s.heap.get? b = some o → h'.get? b = some o) → ∃ κ, (∀ (Q : SortKind → Shared → Prop) (E : Value → Shared → Prop), Q κ { s with heap := h' } → wpAny (model prog w) A.in1.in1 (keyKind' vs.toArray) Q E { s with heap := h' }) ∧
      ∀ i j C, i < vs.length → j < vs.length → C (lt i j) { s with heap := h' } → kas_ask prog w A.in1.in1 κ vs i j C { s with heap := h' })
    (h : ∀ (h' : Heap) (a : Addr) (p : List Nat), s.heap.objs.size ≤ a → (∀ b o, s.heap.get? b = some o → h'.get? b = some o) → h'.PlainList a (p.map fun i => vs.getD i Value.none).toArray → p.Perm (List.range vs.length) → p.Pairwise (slt lt) → Q (.ref a) { s with heap := h' }) :
    wpAny (model prog w) A (call (.builtin "sorted") [.ref l]) Q E s := by
  refine Calls.call_function_entry kind_sorted plain_sorted entry_sorted (args_sorted1 _) ?_
  unfold Builtin.«sorted»
  refine wpAny_bind (m := checkCount "sorted" 1 1 _) (wpAny_pure ?_)
  refine wpAny_bind (collect_list hl ?_ (by rw [sizeLine_eq]; omega))
  refine wpAny_bind (wpAny_newList ?_ (by rw [sizeLine_eq]; omega))
  have hsz : ((s.heap.push (seqObj "list" #[] 0)).update s.heap.objs.size (Obj.mapSeq (· ++ vs.toArray))).objs.size = s.heap.objs.size + 1 := by
    rw [Heap.size_update, size_push']
  generalize hH : ((s.heap.push (seqObj "list" #[] 0)).update s.heap.objs.size (Obj.mapSeq (· ++ vs.toArray))).push (seqObj "list" vs.toArray 0) = H
  have hoL : H.get? (s.heap.objs.size + 1) = some (seqObj "list" vs.toArray 0) := by
    rw [← hH, ← hsz]; exact Heap.get?_push_size _ rfl
  have keep : ∀ b o, s.heap.get? b = some o → H.get? b = some o := fun b o q => by
    have hlt : b < s.heap.objs.size := Heap.lt_size q
    rw [← hH, Heap.get?_push_ne _ _ _ (by rw [hsz]; exact Nat.ne_of_lt (Nat.lt_succ_of_lt hlt)), Heap.get?_update_ne _ _ _ _ (Nat.ne_of_lt hlt), Heap.get?_push_ne _ _ _ (Nat.ne_of_lt hlt)]
    exact q
  have old : ∀ b o, s.heap.get? b = some o → b ≠ s.heap.objs.size + 1 := fun b o e => Nat.ne_of_lt (Nat.lt_succ_of_lt (Heap.lt_size e))
  show wpAny _ _ _ _ _ { s with heap := H }
  rw [hsz]
  refine wpAny_bind (wpAny_holding (wpAny_call_entry slot_list_sort ⟨_, hoL, rfl⟩ entry_list_sort (sort_tree (s := { s with heap := H }) W hoL h64 (fun h' h2 kp => ?_) fun h' p kp pl hp hs => ⟨_, rfl, ?_⟩) (args_list_sort _)))
  · obtain ⟨κ, k1, k2⟩ := hk h' h2 fun b o e => kp b o (old b o e) (keep b o e)
    exact ⟨κ, fun Q q => k1 Q _ q, k2⟩
  · exact wpAny_pure ⟨_, rfl, h h' _ p (Nat.le_succ _) (fun b o e => kp b o (old b o e) (keep b o e)) pl hp hs⟩

theorem pair_ask {b : Bool} {h : Heap} {x y : Value} {p q : Int × Int} {C : Bool → Shared → Prop} (hx : PairAt s.heap x p) (hy : PairAt s.heap y q) (hC : C (lexlt p q) s) : wpAny (model prog w) A (keyLt' (tuples' true) x y) C E s := by
  obtain ⟨a1, t1, u1, n1, rfl, e1⟩ := hx
  obtain ⟨a2, t2, u2, n2, rfl, e2⟩ := hy
  refine kat_lt e1 rfl e2 rfl ?_
  show KatLex prog w A true false C [(Value.int p.1 t1, Value.int q.1 t2), (Value.int p.2 u1, Value.int q.2 u2)] 0 s
  refine kat_cons (wpAny_eqBool_int ?_)
  by_cases z : p.1 = q.1
  · rw [z, beq_self_eq_true]
    refine kat_yes (kat_cons (wpAny_eqBool_int ?_))
    by_cases z2 : p.2 = q.2
    · rw [z2, beq_self_eq_true]
      refine kat_yes (kat_nil ?_)
      have : lexlt p q = false := by rw [lexlt_false]; omega
      rw [this] at hC; exact hC
    · rw [beq_eq_false_iff_ne.mpr z2]
      refine kat_no (kat_one _ _ (PySem.P.lt_int ?_))
      have : lexlt p q = decide (p.2 < q.2) := by simp [lexlt, z]
      rw [this] at hC; exact hC
  · rw [beq_eq_false_iff_ne.mpr z]
    refine kat_no (oneLt_int ?_)
    have : lexlt p q = decide (p.1 < q.1) := by simp [lexlt, z]
    rw [this] at hC; exact hC
end
section
variable {C : Cx} {A : Around} {env : Env} {ρ : Rho} {σ : Store} {X : XP} {s : Shared}
theorem tups_of {h : Heap} : ∀ {vs : List Value} {ps : List (Int × Int)}, VRs h vs (ps.map pv) → ∃ fs, KatTups h vs fs ∧ fs.length = ps.length ∧ ∀ v ∈ fs, ∃ i t, v = Value.int i t
  | vs, [], r => by cases r; exact ⟨[], trivial, rfl, fun v hv => (nomatch hv)⟩
  | vs, p :: ps, r => by
    cases r with
    | cons r1 r2 =>
    obtain ⟨fs, k, l, f⟩ := tups_of r2
    obtain ⟨a, t, u, n, rfl, e⟩ := r1.pv_at
    refine ⟨.int p.1 t :: fs, ⟨⟨a, _, _, n, rfl, e, rfl, rfl, rfl⟩, k⟩, by simp [l], fun v hv => ?_⟩
    rcases List.mem_cons.mp hv with rfl | hv
    · exact ⟨_, _, rfl⟩
    · exact f v hv
theorem CallWP.sortedPairs {l : Addr} {ps : List (Int × Int)} {Q : V → Store → Prop} (hl : LstAt C σ l (ps.map pv)) (h64 : ps.length < 64)
    (h : ∀ (a : Addr) (ps' : List (Int × Int)), σ a = none → ps'.Perm ps → ps'.Pairwise (fun p q => lexlt q p = false) → Q (.ref a) (σ.upd a (.list (ps'.map pv)))) : CallWP C A (.builtin "sorted") [.ref l] σ Q X := by
  intro s vs S r
  cases r with
  | cons r1 r2 =>
  cases r2; cases r1
  obtain ⟨⟨vs⟩, il, rl⟩ := hl.raw S
  simp only at rl
  have el := rl.length
  simp only [List.length_map] at el
  have at_ : ∀ (i : Nat), i < vs.length → VR s.heap (vs.getD i Value.none) (pv (ps.getD i (0, 0))) := fun i hi => by
    have hi' : i < ps.length := by omega
    obtain ⟨u, hu', ru⟩ := rl.get (i := i) (y := pv (ps.getD i (0, 0))) (by simp [hi'])
    have : u = vs.getD i Value.none := by simp [hu', List.getD]
    exact this ▸ ru
  refine sorted_raw (lexSWO fun i => ps.getD i (0, 0)) il (by omega) (fun h' h2 kp => ?_) fun h' a p ha kp pl hp hs => ?_
  · refine ⟨tuples' true, fun Q E q => ?_, fun i j C hi hj hC => ?_⟩
    · obtain ⟨fs, k, lf, f⟩ := tups_of (rl.mono fun _ _ _ e => kp _ _ e)
      exact kat_kind (s := { s with heap := h' }) (T := .type "int") k (by omega) (fun v hv => by obtain ⟨i, t, rfl⟩ := f v hv; exact .now) (by decide) q
    · exact pair_ask (s := { s with heap := h' }) (h := h') (b := true) ((at_ i hi).mono fun _ _ _ e => kp _ _ e).pv_at ((at_ j hj).mono fun _ _ _ e => kp _ _ e).pv_at hC
  · have S' : St C σ { s with heap := h', toks := s.toks } := S.ext kp
    have hpl := hp.length_eq
    have bound : ∀ i ∈ p, i < vs.length := fun i hi => by simpa using hp.mem_iff.mp hi
    have rr : ∀ q : List Nat, (∀ i ∈ q, i < vs.length) → VRs h' (q.map fun i => vs.getD i Value.none) ((q.map fun i => ps.getD i (0, 0)).map pv) := fun q => by
      induction q with
      | nil => exact fun _ => .nil
      | cons i q ih => exact fun hb => .cons ((at_ i (hb i (.head _))).mono fun _ _ _ e => kp _ _ e) (ih fun j hj => hb j (.tail _ hj))
    obtain ⟨S2, e2⟩ := S'.adopt (a := a) (o := .list ((p.map fun i => ps.getD i (0, 0)).map pv)) (σ0 := σ) (h0 := s.heap) ⟨_, pl, by simpa using rr p bound⟩ (Nat.le_trans S.size ha) (.ext kp) (get?_fresh' ha)
    refine ⟨.ref _, _, h a (p.map fun i => ps.getD i (0, 0)) (S.fresh' ha) ?_ ?_, .ref _, S2, e2⟩
    · have e : (List.range vs.length).map (fun i => ps.getD i (0, 0)) = ps := by
        rw [el]
        refine List.ext_getElem (by simp) fun i h1 h2 => ?_
        simp at h1; simp [h1]
      have := hp.map fun i => ps.getD i (0, 0)
      rw [e] at this; exact this
    · rw [List.pairwise_map]
      exact hs.imp fun {i j} z => z.not (lexSWO fun i => ps.getD i (0, 0))
end
section
variable {C : Cx} {A : Around} {env : Env} {ρ : Rho} {σ : Store} {X : XP} {s : Shared}
theorem CallWP.minPairs {l : Addr} {ps : List (Int × Int)} {Q : V → Store → Prop} (hh : A.handled = none) (hu : A.units + 1 < cLine) (hl : LstAt C σ l (ps.map pv)) (hne : 0 < ps.length) (h : ∀ p, p ∈ ps → (∀ q ∈ ps, lexlt q p = false) → Q (pv p) σ) :
    CallWP C A (.builtin "min") [.ref l] σ Q X := by
  intro s vs S r
  cases r with
  | cons r1 r2 =>
  cases r2; cases r1
  obtain ⟨items, il, rl⟩ := hl.raw S
  have el := rl.length
  simp only [Array.length_toList, List.length_map] at el
  have at_ : ∀ (i : Nat) (v : Value) (p : Int × Int), items[i]? = some v → ps[i]? = some p → VR s.heap v (pv p) := fun i v p hv hp => by
    obtain ⟨u, hu', ru⟩ := rl.get (i := i) (y := pv p) (by simp [hp])
    have : u = v := by simpa [hv] using hu'.symm
    exact this ▸ ru
  refine call_min_pairs hh hu il el hne (fun i v p hv hp => (at_ i v p hv hp).pv_at) fun v p h' tk ⟨i, hi, hv, hp⟩ hmin kp => ?_
  exact ⟨pv p, σ, h p (List.mem_of_getElem? hp) hmin, (at_ i v p hv hp).mono fun _ _ _ e => kp _ _ e, S.ext kp, .ext kp⟩
theorem CmpWP.gePair {a b c d : Int} {Q : V → Store → Prop} (hu : A.units < cLine) (h : Q (.bool (!lexlt (a, b) (c, d))) σ) : CmpWP C A .GtE (.tup [.int a, .int b]) (.tup [.int c, .int d]) σ Q X := by
  intro s u v S ra rb
  obtain ⟨a1, t1, u1, n1, rfl, e1⟩ := VR.pv_at (p := (a, b)) ra
  obtain ⟨a2, t2, u2, n2, rfl, e2⟩ := VR.pv_at (p := (c, d)) rb
  exact pair_ge e1 e2 hu (EP.pure S h (.bool _))
theorem Rho.gp_miss4 {x1 x2 x3 x4 y : Str} {v1 v2 v3 v4 : V} {u : Option V} {r : Rho} (h1 : y ≠ x1) (h2 : y ≠ x2) (h3 : y ≠ x3) (h4 : y ≠ x4) (k : Rho.get r y = u) : Rho.get (Rho.put (Rho.put (Rho.put (Rho.put r x1 v1) x2 v2) x3 v3) x4 v4) y = u :=
  Rho.gp_miss h4 (Rho.gp_miss h3 (Rho.gp_miss h2 (Rho.gp_miss h1 k)))
/- attributes of own objects, step by step -/
def AttrWP (C : Cx) (x : V) (name : Str) (σ1 : Store) (Q : V → Store → Prop) : Prop := ∃ a c dx es y attr, x = .ref a ∧ σ1 a = some (.inst c dx) ∧ σ1 dx = some (.sd es) ∧ sget es name = some y ∧ plainGet C.K c name = true ∧ hasDictIn C.K c = true ∧
      findIn C.K (.ref c) name = some attr ∧ noGet C.K attr = true ∧ (∀ i, y ≠ .blt i) ∧ Q y σ1
theorem Ev.attr' {o : Expr} {name : Str} {pos : Pos} {Q : V → Store → Prop} (h : Ev C A env o ρ σ (fun x σ1 => AttrWP C x name σ1 Q) X)
    (hbase : attributeBase o name env (eval o env) = eval o env := by kernel_rfl) : Ev C A env (.Attribute o name pos) ρ σ Q X := Ev.attr h hbase
theorem AttrWP.mk {a c dx : Addr} {es : List (Str × V)} {y : V} {attr : Option Value} {name : Str} {Q : V → Store → Prop} (h1 : σ a = some (.inst c dx)) (h2 : σ dx = some (.sd es)) (h3 : sget es name = some y) (k1 : plainGet C.K c name = true) (k2 : hasDictIn C.K c = true)
    (k3 : findIn C.K (.ref c) name = some attr) (k4 : noGet C.K attr = true) (k5 : ∀ i, y ≠ .blt i) (h : Q y σ) : AttrWP C (.ref a) name σ Q :=
  ⟨a, c, dx, es, y, attr, rfl, h1, h2, h3, k1, k2, k3, k4, k5, h⟩
def MethWP (C : Cx) (A : Around) (env : Env) (pos : Pos) (args : List Expr) (ρ : Rho) (x : V) (name : Str) (σ1 : Store) (Q : V → Store → Prop) (X : XP) : Prop := ∃ a c dx es f, x = .ref a ∧ σ1 a = some (.inst c dx) ∧ σ1 dx = some (.sd es) ∧ sget es name = none ∧ plainGet C.K c name = true ∧
      findIn C.K (.ref c) name = some (some (.ref f)) ∧ isFn C.K (.ref f) = true ∧ keepIn C.K (.ref f) = true ∧ Ags C A env pos args ρ σ1 (fun xs σ2 => CallWP C A (.ref f) (.ref a :: xs) σ2 Q X) X
theorem Ev.meth' {o : Expr} {name : Str} {apos pos : Pos} {args : List Expr} {Q : V → Store → Prop}
    (h : Ev C A env o ρ σ (fun x σ1 => MethWP C A env pos args ρ x name σ1 Q X) X)
    (he : eval (.Call (.Attribute o name apos) args [] pos) env = (do
      let ov ← eval o env
      standAt apos.atName
      let (f, first) ← holding [ov] (getMethod ov name (do return (← importBound o env).getD true))
      callWith pos f first (backTo pos (starEach args env)) (backToKw pos (keywordEach [] env))) := by kernel_rfl)
    (hst : (backTo pos (starEach args env)).any (·.1) = false := by kernel_rfl) : Ev C A env (.Call (.Attribute o name apos) args [] pos) ρ σ Q X := Ev.meth h he hst
theorem MethWP.mk {a c dx f : Addr} {es : List (Str × V)} {name : Str} {pos : Pos} {args : List Expr} {Q : V → Store → Prop} (h1 : σ a = some (.inst c dx)) (h2 : σ dx = some (.sd es)) (h3 : sget es name = none) (k1 : plainGet C.K c name = true)
    (k2 : findIn C.K (.ref c) name = some (some (.ref f))) (k3 : isFn C.K (.ref f) = true) (k4 : keepIn C.K (.ref f) = true) (h : Ags C A env pos args ρ σ (fun xs σ2 => CallWP C A (.ref f) (.ref a :: xs) σ2 Q X) X) : MethWP C A env pos args ρ (.ref a) name σ Q X :=
  ⟨a, c, dx, es, f, rfl, h1, h2, h3, k1, k2, k3, k4, h⟩
def SAttWP (C : Cx) (x : V) (name : Str) (y : V) (σ1 : Store) (Q : Store → Prop) : Prop := ∃ a c dx es, x = .ref a ∧ σ1 a = some (.inst c dx) ∧ σ1 dx = some (.sd es) ∧ es.length ≤ 1000 ∧
      findIn C.K (.ref c) "__setattr__" = some (some (.builtin "object.__setattr__")) ∧ plainOver C.K c = true ∧ takerIn C.K c name = some none ∧ hasDictIn C.K c = true ∧ Q (σ1.upd dx (.sd (sput es name y)))
theorem Asg.attr' {o : Expr} {name : Str} {pos : Pos} {y : V} {Q : Rho → Store → Prop} (h : Ev C A env o ρ σ (fun x σ1 => SAttWP C x name y σ1 (fun σ2 => Q ρ σ2)) X) : Asg C A env (.Attribute o name pos) y ρ σ Q X := Asg.attr h
theorem SAttWP.mk {a c dx : Addr} {es : List (Str × V)} {y : V} {name : Str} {Q : Store → Prop} (h1 : σ a = some (.inst c dx)) (h2 : σ dx = some (.sd es)) (h3 : es.length ≤ 1000) (k1 : findIn C.K (.ref c) "__setattr__" = some (some (.builtin "object.__setattr__")))
    (k2 : plainOver C.K c = true) (k3 : takerIn C.K c name = some none) (k4 : hasDictIn C.K c = true) {es' : List (Str × V)} (hp : sput es name y = es') (h : Q (σ.upd dx (.sd es'))) : SAttWP C (.ref a) name y σ Q :=
  ⟨a, c, dx, es, rfl, h1, h2, h3, k1, k2, k3, k4, hp ▸ h⟩
theorem sput_nil {x : Str} {v : V} : sput [] x v = [(x, v)] := rfl
theorem sput_hit {x : Str} {u v : V} {r : List (Str × V)} : sput ((x, u) :: r) x v = (x, v) :: r := by simp [sput]
theorem sput_miss {x y : Str} {u v : V} {r r' : List (Str × V)} (h : x ≠ y) (k : sput r x v = r') : sput ((y, u) :: r) x v = (y, u) :: r' := by simp [sput, h, k]
theorem sget_nil {x : Str} : sget [] x = none := rfl

/- making an own object -/
def CodC (C : Cx) (A : Around) (f : Value) (args : List V) (σ : Store) (Q : V → Store → Prop) : Prop :=
  ∀ s vs, St C σ s → VRs s.heap vs args → codeAny C.M A (.call f ⟨vs, []⟩) (fun r s' => match r with | .ok (.ret v) => EP C σ s.heap Q v s' | _ => False) s
theorem CodC.fn {f : Addr} {o : Obj} {fd : FuncData} {body : List Stmt} {names : List Str} {args : List V} {Q : V → Store → Prop}
    (ho : C.h₀.get? f = some o) (hd : o.data = .func fd) (hlim : C.h₀.NoLimit) (hcd : C.h₀.CodeRec fd.code fd.qualname) (hbody : fd.body = .stmts body)
    (hbind : ∀ vals : List Value, vals.length = args.length → bindArgs fd ⟨vals, []⟩ = pure (names.zip vals)) (hclo : fd.closure = []) (nd : names.Nodup)
    (hkind : ∀ x ∈ names, fd.scope.names.lookup x = some .local ∨ (fd.scope.names.lookup x = some .cell ∧ ∀ L, ((cellsFrom L fd.scope.names []).lookup x).isSome = true))
    (hroom : A.depth < recursionLimit) (hsc : scopeOk fd.scope = true) (hco : fd.scope.isCoroutine = false) (hgen : fd.scope.isGenerator = false) (hk : fd.scope.kind = .function)
    (h : ∀ L, Exs C (A.deeper (callEnvC fd L f)) (callEnvC fd L f) body (names.zip args) σ (fun g _ σ' => Q g.val σ') (fun _ _ => False)) : CodC C A (.ref f) args σ Q := by
  intro s vs S r
  have hk' : ∀ b o, C.h₀.get? b = some o → s.heap.get? b = some o := S.base
  refine codeAny_call_cells (fd := fd) hroom (hk' _ _ ho) hd (hlim.keeps hk') (hcd.keeps hk') hbody (hbind vs r.length) hclo ?_ (fun s₁ x => ?_) hco hgen hk
  · intro y hy
    rcases hkind y.1 (List.of_mem_zip hy).1 with q | ⟨q, q'⟩
    · exact .inl q
    · exact .inr ⟨q, q' _⟩
  · obtain ⟨S₁, F₁, keep⟩ := S.callee r nd hk hsc x
    refine wpAny_mono (h s.heap.objs.size s₁ S₁ F₁) (fun fl s' z => ?_) (fun _ _ z => z.elim)
    have y := EP.ret S keep (fun n c hc => x.above n c (mem_of_lookup hc)) z
    cases fl <;> exact y
theorem CodC.def {f : Addr} {name qual : Str} {params : Arguments} {body : List Stmt} {scope : Scope} {dV kV doc pm cdv ct oc : Value} {an od : Option Addr} {osl : Array (Option Value)} (names : List Str) {args : List V} {Q : V → Store → Prop}
    (ho : C.K.lookup f = some ⟨oc, od, .func (fnOf name qual params body scope dV kV doc pm an cdv ct), osl⟩) (hcd : codeIn C.K cdv qual = true)
    (hroom : A.depth < recursionLimit)
    (hbind : ∀ vals : List Value, vals.length = args.length → bindArgs (fnOf name qual params body scope dV kV doc pm an cdv ct) ⟨vals, []⟩ = pure (names.zip vals)) (nd : names.Nodup)
    (hkind : (names.all fun y => scope.names.lookup y == some .local || scope.names.lookup y == some .cell) = true) (hsc : scopeOk scope = true) (hco : scope.isCoroutine = false) (hgen : scope.isGenerator = false) (hk : scope.kind = .function)
    (h : ∀ L A', A'.handled = A.handled → A'.depth = A.depth + 1 → A'.units = A.units + 3 → Exs C A' (mkE scope L (cellsFrom (L + 1) scope.names []) (qual ++ ".<locals>.") (some f) cdv (some L)) body (names.zip args) σ (fun g _ σ' => Q g.val σ') (fun _ _ => False)) :
    CodC C A (.ref f) args σ Q := by
  refine CodC.fn (C.KX _ _ ho) rfl C.lim (codeRec_of C.KX hcd) rfl hbind rfl nd (fun x hx => ?_) hroom hsc hco hgen hk (fun L => h L _ rfl rfl rfl)
  have := List.all_eq_true.mp hkind x hx
  rcases Bool.or_eq_true_iff.mp this with q | q
  · exact .inl (by simpa using q)
  · have q' : scope.names.lookup x = some .cell := by simpa using q
    exact .inr ⟨q', fun L => cellsFrom_some _ _ _ (.inl q')⟩
theorem CodC.def1 (x1 : Str) {f : Addr} {name qual : Str} {params : Arguments} {body : List Stmt} {scope : Scope} {dV kV doc pm cdv ct oc : Value} {an od : Option Addr} {osl : Array (Option Value)} {v1 : V} {Q : V → Store → Prop}
    (ho : C.K.lookup f = some ⟨oc, od, .func (fnOf name qual params body scope dV kV doc pm an cdv ct), osl⟩) (hcd : codeIn C.K cdv qual = true) (hroom : A.depth < recursionLimit)
    (hbind : ∀ u1 : Value, bindArgs (fnOf name qual params body scope dV kV doc pm an cdv ct) ⟨[u1], []⟩ = pure [(x1, u1)]) (nd : ([x1] : List Str).Nodup)
    (hkind : (([x1] : List Str).all fun y => scope.names.lookup y == some .local || scope.names.lookup y == some .cell) = true) (hsc : scopeOk scope = true) (hco : scope.isCoroutine = false) (hgen : scope.isGenerator = false) (hk : scope.kind = .function)
    (h : ∀ L A', A'.handled = A.handled → A'.depth = A.depth + 1 → A'.units = A.units + 3 → Exs C A' (mkE scope L (cellsFrom (L + 1) scope.names []) (qual ++ ".<locals>.") (some f) cdv (some L)) body [(x1, v1)] σ (fun g _ σ' => Q g.val σ') (fun _ _ => False)) :
    CodC C A (.ref f) [v1] σ Q :=
  CodC.def [x1] (args := [v1]) ho hcd hroom (fun vals hl => by match vals, hl with | [u1], _ => exact hbind u1) nd hkind hsc hco hgen hk h
theorem CallWP.cls {c fI : Addr} {args : List V} {Q : V → Store → Prop} (hm : makesIn C.K c = true) (hi : findIn C.K (.ref c) "__init__" = some (some (.ref fI))) (hf : typeIn C.K (.ref fI) = some (.type "function"))
    (h : ∀ a dx A', σ a = none → σ dx = none → a ≠ dx → A'.handled = A.handled → A'.depth = A.depth + 1 → A'.units ≤ A.units + 2 → CodC C A' (.ref fI) (.ref a :: args) ((σ.upd dx (.sd [])).upd a (.inst c dx)) (fun v σ' => v = .none ∧ Q (.ref a) σ')) :
    CallWP C A (.ref c) args σ Q X := by
  intro s vs S r
  obtain ⟨hh, g, d, t, os⟩ := s
  refine wpAny_call ?_
  obtain ⟨S2, e2⟩ := S.new (t := t) (x := emptyDict) (o := .sd []) ⟨[], Heap.DictOf.new _, .nil⟩
  have hsz := push_size hh emptyDict
  obtain ⟨S3, e3⟩ := S2.new (t := t) (x := instObj c hh.objs.size) (o := .inst c hh.objs.size) (Heap.get?_push_size _ rfl)
  dsimp only at S3 e3 hsz
  rw [hsz] at S3 e3
  have hne : hh.objs.size + 1 ≠ hh.objs.size := Nat.succ_ne_self _
  have hfr : σ (hh.objs.size + 1) = none := S.fresh' (Nat.le_succ _)
  refine make_core (makes_of S.K hm) (looks_findIn S.K hi) (fun self => bind_fn S.K self hf) (.inl rfl) ?_
  refine codeAny_mono (h (hh.objs.size + 1) hh.objs.size (A.under (.builtin "type.__call__" ⟨.ref c :: vs, []⟩)) hfr S.fresh hne rfl rfl (Nat.add_le_add_left (show (Code.builtin "type.__call__" ⟨.ref c :: vs, []⟩).cUnits ≤ 2 from Nat.le_of_ble_eq_true rfl) _) _ (.ref (hh.objs.size + 1) :: vs) S3 (.cons (.ref _) (r.mono (e2.trans e3).tup))) ?_
  rintro (e | f) s' z
  · exact z.elim
  · cases f <;> first | exact False.elim z | skip
    obtain ⟨x, σ', ⟨rfl, q⟩, rv, S', e'⟩ := z
    cases rv
    exact ⟨rfl, .ref _, σ', q, .ref _, S', (e2.trans e3).trans e'⟩

/- slices of lists -/
theorem pick_range {α : Type} (xs : List α) : ∀ (k n : Nat), k + n ≤ xs.length → ((List.range n).map fun i => k + i).filterMap (xs[·]?) = (xs.drop k).take n
  | k, 0, _ => by simp
  | k, n + 1, h => by
    have hk : k < xs.length := by omega
    have ih := pick_range xs (k + 1) n (by omega)
    rw [List.range_succ_eq_map, List.map_cons, List.map_map, List.filterMap_cons]
    have e0 : xs[k + 0]? = some xs[k] := by simp [hk]
    rw [e0]
    have e1 : (List.range n).map ((fun i => k + i) ∘ Nat.succ) = (List.range n).map fun i => k + 1 + i := List.map_congr_left fun i _ => by simp only [Function.comp]; omega
    rw [e1, ih, List.drop_eq_getElem_cons hk, List.take_succ_cons]

theorem pySlice_upto {α : Type} (xs : List α) (k : Nat) (h : k ≤ xs.length) : pySlice xs none (some (k : Int)) = xs.take k := by
  unfold pySlice
  have e : sliceBounds none (some (k : Int)) none xs.length = (((0 : Nat) : Int), ((k : Nat) : Int), 1) := by
    simp only [sliceBounds, Option.getD_none]
    have : ¬ ((k : Int) < 0) := by omega
    simp [this]; omega
  rw [e]
  simp only
  rw [sliceRange_one, pick_range xs 0 (k - 0) (by omega)]
  simp
theorem pySlice_from {α : Type} (xs : List α) (k : Nat) (h : k ≤ xs.length) : pySlice xs (some (k : Int)) none = xs.drop k := by
  unfold pySlice
  have e : sliceBounds (some (k : Int)) none none xs.length = (((k : Nat) : Int), ((xs.length : Nat) : Int), 1) := by
    simp only [sliceBounds, Option.getD_none]
    have : ¬ ((k : Int) < 0) := by omega
    simp [this]; omega
  rw [e]
  simp only
  rw [sliceRange_one, pick_range xs k (xs.length - k) (by omega)]
  exact List.take_of_length_le (by simp)

theorem TruWP.id {d : Addr} {es : List (Int × V)} {Q : Bool → Store → Prop} (hd : σ d = some (.id es)) (hn : SysOk C) (hz : es.length < 2 ^ 62) (h : Q (!es.isEmpty) σ) : TruWP C A (.ref d) σ Q X := by
  intro s a S r
  cases r
  obtain ⟨kvs, D, pr⟩ := S.rep _ _ hd
  have e := pr.length
  refine wpAny_truthy_dict (S.notSys hn hd) D (by omega) ⟨σ, ?_, S.toks _, .refl ..⟩
  have : kvs.isEmpty = es.isEmpty := by
    cases pr <;> rfl
  rw [this]; exact h
theorem CallWP.len_id {d : Addr} {es : List (Int × V)} {Q : V → Store → Prop} (hd : σ d = some (.id es)) (hn : SysOk C) (hz : es.length < 2 ^ 62) (h : Q (.int es.length) σ) : CallWP C A (.builtin "len") [.ref d] σ Q X := by
  intro s vs S r
  cases r with
  | cons r1 r2 =>
  cases r2; cases r1
  obtain ⟨kvs, D, pr⟩ := S.rep _ _ hd
  have e := pr.length
  refine call_len_dict (S.notSys hn hd) D (by omega) ⟨_, σ, h, ?_, S.toks _, .refl ..⟩
  rw [e]; exact .int _ _

/- dict.pop(key) -/
def idel (es : List (Int × V)) (k : Int) : List (Int × V) := es.filter fun p => !decide (p.1 = k)
theorem PR.without {K : Type} [DecidableEq K] {h : Heap} {x : K} : ∀ {kvs : List (K × Value)} {es : List (K × V)}, PR h kvs es → PR h (without kvs x) (es.filter fun p => !decide (p.1 = x))
  | _, _, .nil => .nil
  | _, _, .cons (k := k) r rs => by
    have ih := PR.without (x := x) rs
    unfold PySem.without at ih ⊢
    simp only [ne_eq, decide_not] at ih ⊢
    by_cases q : k = x
    · subst q; simpa using ih
    · simp only [List.filter_cons, q, decide_false, Bool.not_false, if_true]
      exact .cons r ih
theorem CallWP.idpop {d : Addr} {es : List (Int × V)} {k : Int} {y : V} {Q : V → Store → Prop} (hd : σ d = some (.id es)) (hz : es.length ≤ sizeLine) (hy : iget es k = some y) (h : Q y (σ.upd d (.id (idel es k)))) : CallWP C A (.builtin "dict.pop") [.ref d, .int k] σ Q X := by
  intro s vs S r
  cases r with
  | cons r1 r2 =>
  cases r2 with
  | cons r2 r3 =>
  cases r3; cases r1; cases r2
  rename_i t
  obtain ⟨kvs, D, pr⟩ := S.rep _ _ hd
  obtain ⟨u, hu, ru⟩ := pr.find (x := k) (y := y) hy
  refine call_meetsIn PySem.F.slot_dict_pop D.typeIs PySem.F.entry_dict_pop (PySem.F.args_dict_pop_2 _ _) (meets_dict_pop_there (intKind C.prog C.w) d (k := k) (key := .int k t) (by show (k == k) = true; simp) [] (.inl rfl) rfl) ⟨kvs, u, D, by rw [pr.length]; exact hz, hu, fun h' D' sb => ?_⟩
  have tk : TupKeep s.heap h' := tupKeep_sameBut sb (S.rep _ _ hd).notTup
  obtain ⟨S2, e2⟩ := S.set (t := s.toks + 1) (o' := .id (idel es k)) hd sb ⟨_, D', (pr.mono tk).without⟩
  exact ⟨y, _, h, ru.mono tk, S2, e2⟩
end
end Mine

open PySem PySem.W PySem.SeqAt PyProof.Rows
set_option Elab.async false
set_option maxRecDepth 100000
set_option maxHeartbeats 8000000
set_option linter.unusedVariables false
set_option linter.unusedSimpArgs false
open_top hd for PySem.Challenge.rw_uf030038_03
namespace Mine
variable {C : Cx} {A : Around} {σ : Store} {X : XP}
local macro_rules | `(tactic| walk_at "mK") => do let h := Lean.mkIdent `hK; `(tactic| (rw [$h:ident]; k_is))
local macro_rules | `(tactic| walk_at "mne") => `(tactic| exact ofS_ne (by decide))
local macro_rules | `(tactic| walk_at "mget") => `(tactic| first
  | with_reducible exact Rho.get_hit
  | with_reducible exact Rho.gp_hit
  | with_reducible assumption
  | ((with_reducible refine' Rho.get_miss ?k0 ?k1); (case k0 => walk_at "mne"); (case k1 => walk_at "mget"))
  | ((with_reducible refine' Rho.gp_miss4 ?k0 ?k1 ?k2 ?k3 ?k4); (case k0 => walk_at "mne"); (case k1 => walk_at "mne"); (case k2 => walk_at "mne"); (case k3 => walk_at "mne"); (case k4 => walk_at "mget"))
  | ((with_reducible refine' Rho.gp_miss ?k0 ?k1); (case k0 => walk_at "mne"); (case k1 => walk_at "mget")))
local macro_rules | `(tactic| walk_at "mput") => `(tactic| first
  | with_reducible exact Rho.put_hit
  | with_reducible exact Rho.put_nil
  | ((with_reducible refine' Rho.put_miss ?k0 ?k1); (case k0 => walk_at "mne"); (case k1 => walk_at "mput"))
  | with_reducible exact rfl)
local macro_rules | `(tactic| walk_at "mcapt") => `(tactic| first
  | exact Capt.nil
  | ((with_reducible refine' Capt.take ?k0 ?k1); (case k0 => walk_at "mget"); (case k1 => walk_at "mcapt"))
  | ((with_reducible refine' Capt.skip ?k0 ?k1); (case k0 => decide); (case k1 => walk_at "mcapt")))
local macro_rules | `(tactic| walk_at "mvr") => `(tactic| first | exact VR.ref _ | exact VR.int _ _ | exact VR.str _ _ | exact VR.typ _ | exact VR.blt _ | exact VR.bool _ | exact VR.none)
local macro_rules | `(tactic| walk_at "mname") => `(tactic| first
  | ((with_reducible refine' Ev.nloc ?k0 ?k1 ?_ ?k3); (case k0 => decide +kernel); (case k1 => walk_at "mget"); (case k3 => kernel_rfl))
  | ((with_reducible refine' Ev.ncel ?k0 ?k1 ?_ ?k3 ?k4); (case k0 => decide +kernel); (case k1 => walk_at "mget"); (case k3 => kernel_rfl); (case k4 => kernel_rfl))
  | ((with_reducible refine' Ev.nglob ?k0 ?k1 ?k2 ?_ ?k4); (case k0 => decide +kernel); (case k1 => walk_at "mK"); (case k2 => walk_at "mvr"); (case k4 => kernel_rfl))
  | ((with_reducible refine' Ev.nblt ?k0 ?k1 ?k2 ?k3 ?_ ?k5 ?k6); (case k0 => decide +kernel); (case k1 => walk_at "mK"); (case k2 => boot_by_name); (case k3 => walk_at "mvr"); (case k5 => decide); (case k6 => kernel_rfl)))
local macro_rules | `(tactic| walk_at "mcomp") => `(tactic| ((with_reducible refine' Ev.lcomp ?k0 ?k1 ?k2 ?k3 ?_ ?k5 ?k6); (case k0 => walk_at "mcapt"); (case k1 => decide +kernel); (case k2 => decide +kernel); (case k3 => rfl); (case k5 => kernel_rfl); (case k6 => intro _; kernel_rfl)))
local macro_rules | `(tactic| walk_at "mcompA") => `(tactic| ((with_reducible refine' Ex.lassign ?k0 ?k1 ?k2 ?k3 ?k4 ?_ ?k6 ?k7 ?k8 ?k9); (case k0 => walk_at "mcapt"); (case k1 => decide +kernel); (case k2 => decide +kernel); (case k3 => rfl); (case k4 => decide +kernel); (case k6 => kernel_rfl); (case k7 => kernel_rfl); (case k8 => kernel_rfl); (case k9 => intro _; kernel_rfl)))
local macro_rules | `(tactic| walk_at "msz") => `(tactic| exact small_le (by kernel_rfl))
local macro_rules | `(tactic| walk_at "mnea") => `(tactic| first | with_reducible assumption | exact Ne.symm (by with_reducible assumption))
local macro_rules | `(tactic| walk_at "mst") => `(tactic| first
  | with_reducible exact Store.hit
  | with_reducible assumption
  | ((with_reducible refine' Store.miss ?k0 ?k1); (case k0 => walk_at "mnea"); (case k1 => walk_at "mst"))
  | ((with_reducible refine' Store.at_fresh ?k0 ?k1); (case k0 => walk_at "mst"); (case k1 => walk_at "mst")))
local macro_rules | `(tactic| walk_at "mty") => `(tactic| ((with_reducible refine' TyGo.mk ?k0 ?_); (case k0 => first | exact TyV.str | ((with_reducible refine' TyV.list ?h); (case h => walk_at "mst")) | ((with_reducible refine' TyV.sd ?h); (case h => walk_at "mst")) | ((with_reducible refine' TyV.id ?h); (case h => walk_at "mst")))))
local macro_rules | `(tactic| walk_at "mom") => `(tactic| first | omega | (simp only [List.length_map, List.length_append, List.length_reverse, List.length_cons, List.length_nil, sizeLine_eq] at *; omega) | (simp [sizeLine_eq] at *; omega))
local macro_rules | `(tactic| walk_at "msput") => `(tactic| first
  | with_reducible exact sput_nil
  | with_reducible exact sput_hit
  | ((with_reducible refine' sput_miss ?k0 ?k1); (case k0 => walk_at "mne"); (case k1 => walk_at "msput")))
local macro_rules | `(tactic| walk_at "msget") => `(tactic| first
  | with_reducible exact sget_hit
  | with_reducible assumption
  | with_reducible exact sget_nil
  | ((with_reducible refine' sget_miss ?k0 ?k1); (case k0 => walk_at "mne"); (case k1 => walk_at "msget")))
local macro_rules | `(tactic| walk_at "mlst") => `(tactic| first | ((with_reducible refine' LstAt.st ?h); (case h => walk_at "mst")) | with_reducible assumption)
local macro_rules | `(tactic| walk_at "mhasty") => `(tactic| first
  | exact HasTy.none
  | exact HasTy.bool _
  | exact HasTy.int _
  | exact HasTy.str _
  | exact HasTy.tup _
  | ((with_reducible refine' HasTy.list ?k0); (case k0 => walk_at "mlst"))
  | ((with_reducible refine' HasTy.sd ?k0); (case k0 => walk_at "mst"))
  | ((with_reducible refine' HasTy.id ?k0); (case k0 => walk_at "mst")))
local macro_rules | `(tactic| walk_at "mhasty") => `(tactic| first
  | exact HasTy.none
  | exact HasTy.bool _
  | exact HasTy.int _
  | exact HasTy.str _
  | exact HasTy.tup _
  | ((with_reducible refine' HasTy.list ?k0); (case k0 => walk_at "mlst"))
  | ((with_reducible refine' HasTy.sd ?k0); (case k0 => walk_at "mst"))
  | ((with_reducible refine' HasTy.id ?k0); (case k0 => walk_at "mst")))
local macro_rules | `(tactic| walk_at "masg") => `(tactic| first
  | ((with_reducible refine' Asg.nloc ?k0 ?k1 ?_ ?k3); (case k0 => decide +kernel); (case k1 => walk_at "mput"); (case k3 => kernel_rfl))
  | ((with_reducible refine' Asg.sub ?_))
  | ((with_reducible refine' Asg.attr' ?_)))
local macro_rules | `(tactic| walk_at "mobj") => `(tactic| first
  | walk_at "mname"
  | (((with_reducible refine' Ev.attr' ?_ ?k1); (case k1 => kernel_rfl)); walk_at "mname"; ((with_reducible refine' AttrWP.mk ?k0 ?k1 ?k2 ?k3 ?k4 ?k5 ?k6 ?k7 ?_); (case k0 => walk_at "mst"); (case k1 => walk_at "mst"); (case k2 => walk_at "msget"); (case k3 => walk_at "mK"); (case k4 => walk_at "mK"); (case k5 => walk_at "mK"); (case k6 => walk_at "mK"); (case k7 => (intro _ q; cases q)))))
local macro_rules | `(tactic| walk_at "mpop") => `(tactic| first
  | (((with_reducible refine' Ev.bmeth F.plainAttrs_list F.slot_list_pop F.type_list_pop ?_ ?k1 ?k2 ?k3 ?k4); (case k1 => kernel_rfl); (case k2 => kernel_rfl); (case k3 => kernel_rfl); (case k4 => kernel_rfl)); walk_at "mobj"; walk_at "mty")
  | (((with_reducible refine' Ev.bmeth F.plainAttrs_dict F.slot_dict_pop F.type_dict_pop ?_ ?k1 ?k2 ?k3 ?k4); (case k1 => kernel_rfl); (case k2 => kernel_rfl); (case k3 => kernel_rfl); (case k4 => kernel_rfl)); walk_at "mobj"; walk_at "mty"))
local macro_rules | `(tactic| walk_at "mmeth") => `(tactic| first
  | walk_at "mpop"
  | ((with_reducible refine' Ev.bmeth F.plainAttrs_list F.slot_list_append F.type_list_append ?_ ?k1 ?k2 ?k3 ?k4); (case k1 => kernel_rfl); (case k2 => kernel_rfl); (case k3 => kernel_rfl); (case k4 => kernel_rfl))
  | ((with_reducible refine' Ev.bmeth F.plainAttrs_list F.slot_list_remove F.type_list_remove ?_ ?k1 ?k2 ?k3 ?k4); (case k1 => kernel_rfl); (case k2 => kernel_rfl); (case k3 => kernel_rfl); (case k4 => kernel_rfl))
  | ((with_reducible refine' Ev.bmeth F.plainAttrs_list F.slot_list_clear F.type_list_clear ?_ ?k1 ?k2 ?k3 ?k4); (case k1 => kernel_rfl); (case k2 => kernel_rfl); (case k3 => kernel_rfl); (case k4 => kernel_rfl))
  | ((with_reducible refine' Ev.bmeth F.plainAttrs_list F.slot_list_reverse F.type_list_reverse ?_ ?k1 ?k2 ?k3 ?k4); (case k1 => kernel_rfl); (case k2 => kernel_rfl); (case k3 => kernel_rfl); (case k4 => kernel_rfl))
  | ((with_reducible refine' Ev.bmeth F.plainAttrs_str F.slot_str_join F.type_str_join ?_ ?k1 ?k2 ?k3 ?k4); (case k1 => kernel_rfl); (case k2 => kernel_rfl); (case k3 => kernel_rfl); (case k4 => kernel_rfl))
  | ((with_reducible refine' Ev.bmeth F.plainAttrs_list F.slot_list_insert F.type_list_insert ?_ ?k1 ?k2 ?k3 ?k4); (case k1 => kernel_rfl); (case k2 => kernel_rfl); (case k3 => kernel_rfl); (case k4 => kernel_rfl))
  | ((with_reducible refine' Ev.bmeth F.plainAttrs_list F.slot_list_index F.type_list_index ?_ ?k1 ?k2 ?k3 ?k4); (case k1 => kernel_rfl); (case k2 => kernel_rfl); (case k3 => kernel_rfl); (case k4 => kernel_rfl))
  | ((with_reducible refine' Ev.bmeth F.plainAttrs_list F.slot_list_count F.type_list_count ?_ ?k1 ?k2 ?k3 ?k4); (case k1 => kernel_rfl); (case k2 => kernel_rfl); (case k3 => kernel_rfl); (case k4 => kernel_rfl))
  | ((with_reducible refine' Ev.bmeth F.plainAttrs_str F.slot_str_upper F.type_str_upper ?_ ?k1 ?k2 ?k3 ?k4); (case k1 => kernel_rfl); (case k2 => kernel_rfl); (case k3 => kernel_rfl); (case k4 => kernel_rfl)))
local macro_rules | `(tactic| walk_at "mcall") => `(tactic| first
  | ((with_reducible refine' Ev.callR ?_ ?k1 ?k2); (case k1 => kernel_rfl); (case k2 => kernel_rfl); walk_at "mname"; refine' ⟨_, rfl, ?k3, ?_⟩; (case k3 => walk_at "mK"))
  | ((with_reducible refine' Ev.callB ?_ ?k1 ?k2); (case k1 => kernel_rfl); (case k2 => kernel_rfl); walk_at "mname"; first | refine' ⟨_, .inl ⟨rfl, ?_⟩⟩ | refine' ⟨_, .inr ⟨rfl, ?_⟩⟩))
local macro_rules | `(tactic| walk_at "mev") => `(tactic| first
  | walk_at "mname"
  | ((with_reducible refine' Ev.cint ?_))
  | ((with_reducible refine' Ev.cbool ?_))
  | ((with_reducible refine' Ev.cnone ?_))
  | ((with_reducible refine' Ev.bin ?_))
  | ((with_reducible refine' Ev.cmp ?_ ?k1); (case k1 => kernel_rfl))
  | ((with_reducible refine' Ev.sliceL ?_))
  | ((with_reducible refine' Ev.sub ?_))
  | ((with_reducible refine' Ev.attr' ?_ ?k1); (case k1 => kernel_rfl))
  | ((with_reducible refine' Ev.tuple ?_))
  | walk_at "mmeth"
  | ((with_reducible refine' Ev.meth' ?_ ?k1 ?k2); (case k1 => kernel_rfl); (case k2 => kernel_rfl))
  | walk_at "mcall"
  | ((with_reducible refine' Ev.boolop ?_))
  | ((with_reducible refine' Ev.list ?_))
  | walk_at "mcomp"
  | walk_at "mdict")
local macro_rules | `(tactic| walk_at "mex") => `(tactic| first
  | ((with_reducible refine' Ex.ret ?_))
  | ((with_reducible refine' Ex.ite ?_))
  | ((with_reducible refine' Ex.expr ?_ ?k1 ?k2); (case k1 => kernel_rfl); (case k2 => kernel_rfl))
  | walk_at "mcompA"
  | ((with_reducible refine' Ex.assign ?_ ?k1 ?k2 ?k3); (case k1 => kernel_rfl); (case k2 => kernel_rfl); (case k3 => kernel_rfl))
  | ((with_reducible refine' Ex.for ?_ ?k1); (case k1 => intro _; kernel_rfl)))
local macro_rules | `(tactic| walk_at "m") => `(tactic| first
  | ((with_reducible refine' is.ev ?_); first | walk_at "mev")
  | ((with_reducible refine' is.exs ?_); first | ((with_reducible refine' Exs.cons ?_)) | ((with_reducible refine' Exs.nil ?_)))
  | ((with_reducible refine' is.thn ?_); first | ((with_reducible refine' Then.next ?_)) | ((with_reducible refine' Then.ret ?_)))
  | ((with_reducible refine' is.ags ?_); first | ((with_reducible refine' Ags.cons ?_ ?k1); (case k1 => kernel_rfl)) | ((with_reducible refine' Ags.nil ?_)))
  | ((with_reducible refine' is.cmp ?_); first | ((with_reducible refine' CmpWP.eq_int ?_)) | ((with_reducible refine' CmpWP.ne_int ?_)) | ((with_reducible refine' CmpWP.lt_int ?_)) | ((with_reducible refine' CmpWP.isNone ?_)))
  | ((with_reducible refine' is.tst ?_); first | ((with_reducible refine' Tst.cmp ?_ ?k1); (case k1 => kernel_rfl)) | ((with_reducible refine' Tst.not ?_)) | ((with_reducible refine' Tst.boolop ?_)) | ((with_reducible refine' Tst.val ?_ ?k1); (case k1 => kernel_rfl)))
  | ((with_reducible refine' is.ex ?_); first | walk_at "mex")
  | ((with_reducible refine' is.asg ?_); first | walk_at "masg")
  | ((with_reducible refine' is.bin ?_); first | ((with_reducible refine' BinWP.add_int ?_)) | ((with_reducible refine' BinWP.sub_int ?_)) | ((with_reducible refine' BinWP.mul_int ?_ ?k1); (case k1 => first | exact intMul_l (by decide) (by decide) | exact intMul_r (by decide) (by decide) | exact intMul_l (by omega) (by omega) | exact intMul_r (by omega) (by omega))) | ((with_reducible refine' BinWP.fmod_int ?k0 ?_); (case k0 => decide)) | ((with_reducible refine' BinWP.fdiv_int ?k0 ?k1 ?_); (case k0 => decide); (case k1 => decide)))
  | ((with_reducible refine' is.tru ?_); first | ((with_reducible refine' TruWP.bool ?_)) | ((with_reducible refine' TruWP.list ?k0 ?k1 ?_); (case k0 => walk_at "mlst"); (case k1 => walk_at "mom")))
  | ((with_reducible refine' is.item ?_); first | ((with_reducible refine' ItemWP.tup0 ?_)) | ((with_reducible refine' ItemWP.tup1 ?_)))
  | ((with_reducible refine' is.call ?_); first | ((with_reducible refine' isi_t ?k0 ?k1 ?k2 ?_); (case k0 => walk_at "mhasty"); (case k1 => decide); (case k2 => rfl)) | ((with_reducible refine' CallWP.append ?k0 ?k1 ?_); (case k0 => walk_at "mst"); (case k1 => walk_at "mom")) | ((with_reducible refine' BltWP.len_list ?k0 ?k1 ?_); (case k0 => walk_at "mlst"); (case k1 => walk_at "mom")) | ((with_reducible refine' CallWP.listOf ?k0 ?k1 ?_); (case k0 => walk_at "mlst"); (case k1 => walk_at "mom")) | ((with_reducible refine' CallWP.range1 ?_)) | ((with_reducible refine' CallWP.range2 ?_)))
  | ((with_reducible refine' is.lp ?_); first | ((with_reducible refine' LpQ.n ?_)))
  | ((with_reducible refine' Br.t ?k0 ?_); (case k0 => rfl))
  | ((with_reducible refine' Br.f ?k0 ?_); (case k0 => rfl))
  | ((with_reducible refine' Br.t ?k0 ?_); (case k0 => decide +kernel))
  | ((with_reducible refine' Br.f ?k0 ?_); (case k0 => decide +kernel))
  | ((with_reducible refine' Br.t ?k0 ?_); (case k0 => (simp; done)))
  | ((with_reducible refine' Br.f ?k0 ?_); (case k0 => (simp; done)))
  | walk_at "mty"
  | ((with_reducible refine' Szs.mk ?k0 ?_); (case k0 => walk_at "msz"))
  | ((with_reducible refine' AllT.and_cons ?_))
  | ((with_reducible refine' AllT.or_cons ?_))
  | ((with_reducible refine' AllT.and_nil ?_))
  | ((with_reducible refine' AllT.or_nil ?_))
  | ((with_reducible refine' BoolE.one ?_))
  | ((with_reducible refine' BoolE.and ?_))
  | ((with_reducible refine' Ifs.nil ?_))
  | ((with_reducible refine' Ifs.one ?_))
  | ((with_reducible refine' Prt.none ?_))
  | ((with_reducible refine' Prt.some ?_))
  | ((with_reducible refine' AttrWP.mk ?k0 ?k1 ?k2 ?k3 ?k4 ?k5 ?k6 ?k7 ?_); (case k0 => walk_at "mst"); (case k1 => walk_at "mst"); (case k2 => walk_at "msget"); (case k3 => walk_at "mK"); (case k4 => walk_at "mK"); (case k5 => walk_at "mK"); (case k6 => walk_at "mK"); (case k7 => (intro _ q; cases q)))
  | ((with_reducible refine' MethWP.mk ?k0 ?k1 ?k2 ?k3 ?k4 ?k5 ?k6 ?_); (case k0 => walk_at "mst"); (case k1 => walk_at "mst"); (case k2 => walk_at "msget"); (case k3 => walk_at "mK"); (case k4 => walk_at "mK"); (case k5 => walk_at "mK"); (case k6 => walk_at "mK"))
  | ((with_reducible refine' SAttWP.mk ?k0 ?k1 ?k2 ?k3 ?k4 ?k5 ?k6 ?k7 ?_); (case k0 => walk_at "mst"); (case k1 => walk_at "mst"); (case k2 => exact Nat.le_of_ble_eq_true rfl); (case k3 => walk_at "mK"); (case k4 => walk_at "mK"); (case k5 => walk_at "mK"); (case k6 => walk_at "mK"); (case k7 => walk_at "msput"))
  | ((with_reducible refine' Src.of ?_))
  | ((with_reducible refine' Eqs.mk ?k0 ?_); (case k0 => rfl)))
local macro_rules | `(tactic| walk_at "mdef0") => `(tactic| (refine' CallWP.def0  ?k1 ?k2 ?k3 ?k4 ?k5 ?k6 ?k7 ?k8 ?k9 ?k10 ?_; (case k1 => walk_at "mK"); (case k2 => walk_at "mK"); (case k3 => assumption); (case k4 => with_unfolding_all rfl); (case k5 => decide +kernel); (case k6 => decide +kernel); (case k7 => decide +kernel); (case k8 => rfl); (case k9 => rfl); (case k10 => rfl)))
local macro_rules | `(tactic| walk_at "mdef1") => `(tactic| (refine' CallWP.def1 _ ?k1 ?k2 ?k3 ?k4 ?k5 ?k6 ?k7 ?k8 ?k9 ?k10 ?_; (case k1 => walk_at "mK"); (case k2 => walk_at "mK"); (case k3 => assumption); (case k4 => intro _; with_unfolding_all rfl); (case k5 => decide +kernel); (case k6 => decide +kernel); (case k7 => decide +kernel); (case k8 => rfl); (case k9 => rfl); (case k10 => rfl)))
local macro_rules | `(tactic| walk_at "mdef2") => `(tactic| (refine' CallWP.def2 _ _ ?k1 ?k2 ?k3 ?k4 ?k5 ?k6 ?k7 ?k8 ?k9 ?k10 ?_; (case k1 => walk_at "mK"); (case k2 => walk_at "mK"); (case k3 => assumption); (case k4 => intro _ _; with_unfolding_all rfl); (case k5 => decide +kernel); (case k6 => decide +kernel); (case k7 => decide +kernel); (case k8 => rfl); (case k9 => rfl); (case k10 => rfl)))
local macro_rules | `(tactic| walk_at "mdef3") => `(tactic| (refine' CallWP.def3 _ _ _ ?k1 ?k2 ?k3 ?k4 ?k5 ?k6 ?k7 ?k8 ?k9 ?k10 ?_; (case k1 => walk_at "mK"); (case k2 => walk_at "mK"); (case k3 => assumption); (case k4 => intro _ _ _; with_unfolding_all rfl); (case k5 => decide +kernel); (case k6 => decide +kernel); (case k7 => decide +kernel); (case k8 => rfl); (case k9 => rfl); (case k10 => rfl)))
local macro_rules | `(tactic| walk_at "mdef4") => `(tactic| (refine' CallWP.def4 _ _ _ _ ?k1 ?k2 ?k3 ?k4 ?k5 ?k6 ?k7 ?k8 ?k9 ?k10 ?_; (case k1 => walk_at "mK"); (case k2 => walk_at "mK"); (case k3 => assumption); (case k4 => intro _ _ _ _; with_unfolding_all rfl); (case k5 => decide +kernel); (case k6 => decide +kernel); (case k7 => decide +kernel); (case k8 => rfl); (case k9 => rfl); (case k10 => rfl)))
local macro_rules | `(tactic| walk_at "mdef5") => `(tactic| (refine' CallWP.def5 _ _ _ _ _ ?k1 ?k2 ?k3 ?k4 ?k5 ?k6 ?k7 ?k8 ?k9 ?k10 ?_; (case k1 => walk_at "mK"); (case k2 => walk_at "mK"); (case k3 => assumption); (case k4 => intro _ _ _ _ _; with_unfolding_all rfl); (case k5 => decide +kernel); (case k6 => decide +kernel); (case k7 => decide +kernel); (case k8 => rfl); (case k9 => rfl); (case k10 => rfl)))
local macro_rules | `(tactic| walk_at "mdef6") => `(tactic| (refine' CallWP.def6 _ _ _ _ _ _ ?k1 ?k2 ?k3 ?k4 ?k5 ?k6 ?k7 ?k8 ?k9 ?k10 ?_; (case k1 => walk_at "mK"); (case k2 => walk_at "mK"); (case k3 => assumption); (case k4 => intro _ _ _ _ _ _; with_unfolding_all rfl); (case k5 => decide +kernel); (case k6 => decide +kernel); (case k7 => decide +kernel); (case k8 => rfl); (case k9 => rfl); (case k10 => rfl)))
local macro_rules | `(tactic| walk_at "mdef7") => `(tactic| (refine' CallWP.def7 _ _ _ _ _ _ _ ?k1 ?k2 ?k3 ?k4 ?k5 ?k6 ?k7 ?k8 ?k9 ?k10 ?_; (case k1 => walk_at "mK"); (case k2 => walk_at "mK"); (case k3 => assumption); (case k4 => intro _ _ _ _ _ _ _; with_unfolding_all rfl); (case k5 => decide +kernel); (case k6 => decide +kernel); (case k7 => decide +kernel); (case k8 => rfl); (case k9 => rfl); (case k10 => rfl)))
local macro_rules | `(tactic| walk_at "mdefC1") => `(tactic| (refine' CodC.def1 _ ?k1 ?k2 ?k3 ?k4 ?k5 ?k6 ?k7 ?k8 ?k9 ?k10 ?_; (case k1 => walk_at "mK"); (case k2 => walk_at "mK"); (case k3 => assumption); (case k4 => intro _; with_unfolding_all rfl); (case k5 => decide +kernel); (case k6 => decide +kernel); (case k7 => decide +kernel); (case k8 => rfl); (case k9 => rfl); (case k10 => rfl)))
local macro_rules | `(tactic| walk_at "mdefC3") => `(tactic| (refine' CodC.def3 _ _ _ ?k1 ?k2 ?k3 ?k4 ?k5 ?k6 ?k7 ?k8 ?k9 ?k10 ?_; (case k1 => walk_at "mK"); (case k2 => walk_at "mK"); (case k3 => assumption); (case k4 => intro _ _ _; with_unfolding_all rfl); (case k5 => decide +kernel); (case k6 => decide +kernel); (case k7 => decide +kernel); (case k8 => rfl); (case k9 => rfl); (case k10 => rfl)))
structure WAt (σ : Store) (w dx n f : Addr) (near : List Int) (far : List (Int × Int)) : Prop where
  hw : σ w = some (.inst 62 dx)
  hd : σ dx = some (.sd [("near", .ref n), ("far", .ref f)])
  hn : σ n = some (.list (near.map V.int))
  hf : σ f = some (.list (far.map pv))
  nf : n ≠ f
theorem WAt.ne {σ : Store} {w dx n f : Addr} {near : List Int} {far : List (Int × Int)} (W : WAt σ w dx n f near far) : w ≠ dx ∧ w ≠ n ∧ w ≠ f ∧ dx ≠ n ∧ dx ≠ f := by
  obtain ⟨h1, h2, h3, h4, -⟩ := W
  refine ⟨?_, ?_, ?_, ?_, ?_⟩ <;> intro e <;> subst e
  · rw [h1] at h2; cases h2
  · rw [h1] at h3; cases h3
  · rw [h1] at h4; cases h4
  · rw [h2] at h3; cases h3
  · rw [h2] at h4; cases h4
theorem WAt.grow {σ σ' : Store} {w dx n f : Addr} {near : List Int} {far : List (Int × Int)} (W : WAt σ w dx n f near far) (g : Grow σ σ') : WAt σ' w dx n f near far :=
  ⟨g _ _ W.hw, g _ _ W.hd, g _ _ W.hn, g _ _ W.hf, W.nf⟩
theorem c_Waits (hK : C.K = hd.heap_39 C.w.params) {Q : V → Store → Prop} (hr : A.depth + 1 < recursionLimit) (hh : A.handled = none)
    (h : ∀ w dx n f σ', Grow σ σ' → σ w = none → σ dx = none → σ n = none → σ f = none → WAt σ' w dx n f [] [] → Q (.ref w) σ') : CallWP C A (.ref 62) [] σ Q X := by
  refine CallWP.cls (by walk_at "mK") (by walk_at "mK") (by walk_at "mK") fun w dx A1 hw hd hne h1 h2 h3 => ?_
  have hr1 : A1.depth < recursionLimit := by rw [h2]; exact hr
  walk_at "mdefC1"
  intro L A' a1 a2 a3
  have hh' : A'.handled = none := (a1.trans h1).trans hh
  have hne' : dx ≠ w := Ne.symm hne
  repeat walk_at "m"
  intro n hn
  obtain ⟨q1, hn0⟩ := Store.none_ne hn
  obtain ⟨q2, hn0⟩ := Store.none_ne hn0
  repeat walk_at "m"
  intro f hf
  obtain ⟨q3, hf0⟩ := Store.none_ne hf
  obtain ⟨q4, hf0⟩ := Store.none_ne hf0
  obtain ⟨q5, hf0⟩ := Store.none_ne hf0
  obtain ⟨q6, hf0⟩ := Store.none_ne hf0
  repeat walk_at "m"
  refine h w dx n f _ ?_ hw hd hn0 hf0 ⟨?_, ?_, ?_, ?_, Ne.symm q4⟩
  · exact (((((Grow.rfl'.upd hd).upd hw).upd hn0).upd hd).upd hf0).upd hd
  · walk_at "mst"
  · walk_at "mst"
  · simp only [List.map_nil]; walk_at "mst"
  · simp only [List.map_nil]; walk_at "mst"
theorem c_sooner (hK : C.K = hd.heap_39 C.w.params) {w dx n f : Addr} {near : List Int} {far : List (Int × Int)} {x : Int} {Q : V → Store → Prop} (hr : A.depth < recursionLimit) (hh : A.handled = none) (W : WAt σ w dx n f near far) (hz : near.length ≤ 10000)
    (h : Q .none (σ.upd n (.list ((near ++ [x]).map V.int)))) : CallWP C A (.ref 35) [.ref w, .int x] σ Q X := by
  obtain ⟨hw, hd, hn, hf, nf⟩ := W
  walk_at "mdef2"
  intro L A' a1 a2 a3
  have hh' : A'.handled = none := a1.trans hh
  repeat walk_at "m"
  show Q V.none _
  simpa using h
theorem c_later (hK : C.K = hd.heap_39 C.w.params) {w dx n f : Addr} {near : List Int} {far : List (Int × Int)} {x d : Int} {Q : V → Store → Prop} (hr : A.depth < recursionLimit) (hh : A.handled = none) (W : WAt σ w dx n f near far) (hz : far.length ≤ 10000)
    (h : Q .none (σ.upd f (.list ((far ++ [(d, x)]).map pv)))) : CallWP C A (.ref 42) [.ref w, .int x, .int d] σ Q X := by
  obtain ⟨hw, hd, hn, hf, nf⟩ := W
  walk_at "mdef3"
  intro L A' a1 a2 a3
  have hh' : A'.handled = none := a1.trans hh
  repeat walk_at "m"
  show Q V.none _
  simpa [pv] using h
theorem c_lineup (hK : C.K = hd.heap_39 C.w.params) {w dx n f : Addr} {near : List Int} {far : List (Int × Int)} {Q : V → Store → Prop} (hr : A.depth < recursionLimit) (hh : A.handled = none) (W : WAt σ w dx n f near far) (hz : near.length ≤ 10000) (h64 : far.length < 64)
    (h : ∀ (a : Addr) (σ' : Store) (ps : List (Int × Int)), Grow σ σ' → σ a = none → ps.Perm far → ps.Pairwise (fun p q => lexlt q p = false) → σ' a = some (.list ((near ++ ps.map (·.2)).map V.int)) → Q (.ref a) σ') : CallWP C A (.ref 47) [.ref w] σ Q X := by
  obtain ⟨hw, hd, hn, hf, nf⟩ := W
  walk_at "mdef1"
  intro L A' a1 a2 a3
  have hh' : A'.handled = none := a1.trans hh
  repeat walk_at "m"
  refine CallWP.sortedPairs (.inl hf) h64 fun s ps hs hp ho => ?_
  have hpl := hp.length_eq
  refine ⟨_, _, ItV.list hh' (.inl Store.hit), fun L' => ?_⟩
  refine CmpL.pure (fun _ => true) (fun y => match y with | .tup [_, b] => b | _ => .none) (.inl Store.hit) _ _ ?_ ?_ (by simp [sizeLine_eq]; omega) ?_
  · intro y hy Q hQ
    repeat walk_at "m"
    exact hQ
  · intro y hy _ Q hQ
    obtain ⟨p, hp, rfl⟩ := List.mem_map.mp hy
    simp only [pv]
    repeat walk_at "m"
    exact hQ
  · intro c hc
    obtain ⟨q1, hc0⟩ := Store.none_ne hc
    have e : ([] : List V) ++ List.map (fun y => match y with | .tup [_, b] => b | _ => .none) (List.filter (fun _ => true) (ps.map pv)) = (ps.map (·.2)).map V.int := by
      rw [List.nil_append, List.filter_eq_self.mpr (fun _ _ => rfl), List.map_map, List.map_map]; rfl
    rw [e]
    refine BinWP.cat (.inl (by walk_at "mst")) (.inl Store.hit) (by simp [sizeLine_eq]; omega) fun a ha => ?_
    obtain ⟨q2, ha0⟩ := Store.none_ne ha
    obtain ⟨q3, ha0⟩ := Store.none_ne ha0
    refine h a _ ps (((Grow.rfl'.upd hs).upd hc0).upd ha0) ha0 hp ho ?_
    rw [Store.hit]; simp
theorem eraseIdx_map' {α β : Type} (f : α → β) : ∀ (l : List α) (i : Nat), (l.map f).eraseIdx i = (l.eraseIdx i).map f
  | [], _ => rfl
  | _ :: _, 0 => rfl
  | a :: l, i + 1 => by simp [eraseIdx_map' f l i]
theorem idx_pairs (p : Int × Int) : ∀ (l : List (Int × Int)), p ∈ l → (l.map fun q : Int × Int => PyData.tuple [.int q.1, .int q.2]).findIdx? (fun y => PyData.eqv y (.tuple [.int p.1, .int p.2])) = some (l.idxOf p)
  | q :: l, h => by
    rw [List.map_cons, List.findIdx?_cons, List.idxOf_cons]
    have e : PyData.eqv (.tuple [.int q.1, .int q.2]) (.tuple [.int p.1, .int p.2]) = (q == p) := by
      rw [Bool.eq_iff_iff]
      simp [PyData.eqv, PyData.eqvAll, Prod.ext_iff]
    rw [e]
    cases z : q == p with
    | true => rfl
    | false =>
      have : p ∈ l := by
        rcases List.mem_cons.mp h with w | w
        · rw [w] at z; simp at z
        · exact w
      simp [idx_pairs p l this]
theorem c_lead (hK : C.K = hd.heap_39 C.w.params) {w dx n f : Addr} {near : List Int} {far : List (Int × Int)} {Q : V → Store → Prop} (hr : A.depth < recursionLimit) (hh : A.handled = none) (hu : A.units < 9000) (W : WAt σ w dx n f near far) (hz : near.length ≤ 10000) (hz2 : far.length ≤ 10000)
    (h1 : ∀ x r, near = x :: r → Q (.tup [.int x, .none]) (σ.upd n (.list (r.map V.int)))) (h2 : near = [] → far = [] → Q .none σ)
    (h3 : near = [] → ∀ p, p ∈ far → (∀ q ∈ far, lexlt q p = false) → Q (.tup [.int p.2, .int p.1]) (σ.upd f (.list ((far.erase p).map pv)))) : CallWP C A (.ref 54) [.ref w] σ Q X := by
  obtain ⟨hw, hd, hn, hf, nf⟩ := W
  walk_at "mdef1"
  intro L A' a1 a2 a3
  have hh' : A'.handled = none := a1.trans hh
  repeat walk_at "m"
  cases near with
  | cons x r =>
    refine Br.t (by simp) ?_
    repeat walk_at "m"
    refine CallWP.pop_at (j := 0) hn (by decide) (by rw [seqIndex_of (by omega) (by simp <;> omega)]; rfl) rfl (by simp [sizeLine_eq] at *; omega) ?_
    repeat walk_at "m"
    exact h1 x r rfl
  | nil =>
    refine Br.f (by simp) ?_
    repeat walk_at "m"
    cases far with
    | nil =>
      refine Br.t (by simp) ?_
      repeat walk_at "m"
      exact h2 rfl rfl
    | cons p0 r =>
      refine Br.f (by simp) ?_
      repeat walk_at "m"
      refine CallWP.minPairs hh' (by rw [a3]; simp only [cLine]; omega) (.inl hf) (by simp) fun p hp hmin => ?_
      repeat walk_at "m"
      have hidx := idx_pairs p (p0 :: r) hp
      refine CallWP.remove (d := .tuple [.int p.1, .int p.2]) hf (.tup (.cons (.int _) (.cons (.int _) .nil))) (DRs.map (g := fun q : Int × Int => PyData.tuple [.int q.1, .int q.2]) fun q _ => .tup (.cons (.int _) (.cons (.int _) .nil))) (by simp [PyData.canLay0, PyData.canLayAll0]) (canLayAll_map fun q _ => by simp [PyData.canLay0, PyData.canLayAll0])
        (by rw [a3]; simp only [PyData.depth, PyData.depthAll, cLine]; omega) (by simp [sizeLine_eq] at *; omega) hidx ?_
      simp only [pv]
      repeat walk_at "m"
      have e : List.eraseIdx ((p0 :: r).map pv) ((p0 :: r).idxOf p) = ((p0 :: r).erase p).map pv := by
        rw [List.erase_eq_eraseIdx_of_idxOf rfl, eraseIdx_map']
      rw [e]
      exact h3 rfl p hp hmin
theorem c_drop (hK : C.K = hd.heap_39 C.w.params) {w dx n f m : Addr} {near ns : List Int} {far : List (Int × Int)} {Q : V → Store → Prop} (hr : A.depth < recursionLimit) (hh : A.handled = none) (hu : A.units < 9000) (W : WAt σ w dx n f near far) (hm : σ m = some (.list (ns.map V.int))) (hz : near.length ≤ 10000) (hz2 : far.length ≤ 10000)
    (h : ∀ n' f' σ', (∀ b o, b ≠ dx → σ b = some o → σ' b = some o) → σ n' = none → σ f' = none → WAt σ' w dx n' f' (near.filter fun x => !ns.contains x) (far.filter fun p => !ns.contains p.2) → Q .none σ') : CallWP C A (.ref 59) [.ref w, .ref m] σ Q X := by
  obtain ⟨n1, n2, n3, n4, n5⟩ := W.ne
  obtain ⟨hw, hd, hn, hf, nf⟩ := W
  have hmd : m ≠ dx := fun e => by rw [e, hd] at hm; cases hm
  have inL : ∀ {A' : Around} {σ' : Store} {x : Int} {Q : V → Store → Prop} {X : XP}, A'.units = A.units + 3 → σ' m = some (.list (ns.map V.int)) → Q (.bool (!ns.contains x)) σ' → CmpWP C A' .NotIn (.int x) (.ref m) σ' Q X := by
    intro A' σ' x Q X hA hm' hQ
    refine CmpWP.notInL (ds := ns.map PyData.int) (.inl hm') (.int _) (DRs.map fun _ _ => .int _) (by simp [PyData.canLay0]) (canLayAll_map fun _ _ => by simp [PyData.canLay0]) (by rw [hA]; simp only [PyData.depth, cLine]; omega) ?_
    have e : ((ns.map PyData.int).any fun y => PyData.eqv y (.int x)) = ns.contains x := by
      rw [Bool.eq_iff_iff]
      simp [PyData.eqv]
    rw [e]; exact hQ
  walk_at "mdef2"
  intro L A' a1 a2 a3
  have hh' : A'.handled = none := a1.trans hh
  repeat walk_at "m"
  refine ⟨_, _, ItV.list hh' (.inl hn), fun L' => ?_⟩
  refine CmpL.pure (fun y => match y with | .int x => !ns.contains x | _ => false) id (.inl hn) _ _ ?_ ?_ (by simp [sizeLine_eq]; omega) ?_
  · intro y hy Q hQ
    obtain ⟨x, hx, rfl⟩ := List.mem_map.mp hy
    repeat walk_at "m"
    refine inL a3 hm ?_
    repeat walk_at "m"
    exact hQ
  · intro y hy _ Q hQ
    repeat walk_at "m"
    exact hQ
  intro n' hn'
  have e1 : ([] : List V) ++ List.map id (List.filter (fun y => match y with | .int x => !ns.contains x | _ => false) (near.map V.int)) = (near.filter fun x => !ns.contains x).map V.int := by
    rw [List.nil_append, List.map_id, List.filter_map]; rfl
  rw [e1]
  repeat walk_at "m"
  have hf1 : ((σ.upd n' (.list ((near.filter fun x => !ns.contains x).map V.int))).upd dx (.sd [("near", .ref n'), ("far", .ref f)])) f = some (.list (far.map pv)) := by walk_at "mst"
  have hm1 : ((σ.upd n' (.list ((near.filter fun x => !ns.contains x).map V.int))).upd dx (.sd [("near", .ref n'), ("far", .ref f)])) m = some (.list (ns.map V.int)) := by walk_at "mst"
  refine ⟨_, _, ItV.list hh' (.inl hf1), fun L' => ?_⟩
  refine CmpL.pure (fun y => match y with | .tup [_, .int x] => !ns.contains x | _ => false) id (.inl hf1) _ _ ?_ ?_ (by simp [sizeLine_eq]; omega) ?_
  · intro y hy Q hQ
    obtain ⟨x, hx, rfl⟩ := List.mem_map.mp hy
    simp only [pv]
    repeat walk_at "m"
    refine inL a3 hm1 ?_
    repeat walk_at "m"
    exact hQ
  · intro y hy _ Q hQ
    repeat walk_at "m"
    exact hQ
  intro f' hf'
  have e2 : ([] : List V) ++ List.map id (List.filter (fun y => match y with | .tup [_, .int x] => !ns.contains x | _ => false) (far.map pv)) = (far.filter fun p => !ns.contains p.2).map pv := by
    rw [List.nil_append, List.map_id, List.filter_map]; rfl
  rw [e2]
  obtain ⟨q1, hf0⟩ := Store.none_ne hf'
  obtain ⟨q2, hf0⟩ := Store.none_ne hf0
  have q3 : n' ≠ dx := fun e => by rw [e, hd] at hn'; cases hn'
  repeat walk_at "m"
  refine h n' f' _ (fun b o hb e => ?_) hn' hf0 ⟨?_, ?_, ?_, ?_, Ne.symm q2⟩
  · rw [Store.miss hb (Store.miss (fun q => by rw [q, hf0] at e; cases e) (Store.miss hb (Store.miss (fun q => by rw [q, hn'] at e; cases e) e)))]
  · walk_at "mst"
  · walk_at "mst"
  · walk_at "mst"
  · walk_at "mst"

abbrev lateOf (far : List (Int × Int)) : List (Int × V) := far.map fun p => (p.2, V.int p.1)
theorem eqv_int (a b : Int) : PyData.eqv (.int a) (.int b) = (a == b) := by simp [PyData.eqv]
theorem iget_late : ∀ {far : List (Int × Int)} {p : Int × Int}, (far.map (·.2)).Nodup → p ∈ far → iget (lateOf far) p.2 = some (.int p.1)
  | q :: far, p, nd, h => by
    simp only [List.map_cons, List.nodup_cons] at nd
    unfold iget
    rcases List.mem_cons.mp h with rfl | h
    · simp
    · have : ¬ q.2 = p.2 := fun e => nd.1 (by rw [e]; exact List.mem_map_of_mem h)
      simp only [lateOf, List.map_cons, List.find?_cons, this, decide_false]
      exact iget_late nd.2 h
theorem iget_late_none : ∀ {far : List (Int × Int)} {k : Int}, k ∉ far.map (·.2) → iget (lateOf far) k = none
  | [], k, _ => rfl
  | q :: far, k, h => by
    simp only [List.map_cons, List.mem_cons, not_or] at h
    have : ¬ q.2 = k := fun e => h.1 e.symm
    unfold iget
    simp only [lateOf, List.map_cons, List.find?_cons, this, decide_false]
    exact iget_late_none h.2
theorem iget_some {far : List (Int × Int)} (nd : (far.map (·.2)).Nodup) (k : Int) : (iget (lateOf far) k).isSome = (far.map (·.2)).contains k := by
  by_cases h : k ∈ far.map (·.2)
  · obtain ⟨p, hp, rfl⟩ := List.mem_map.mp h
    rw [iget_late nd hp]; simpa using ⟨p.1, hp⟩
  · rw [iget_late_none h]; simpa using h
theorem idel_late (far : List (Int × Int)) (k : Int) : idel (lateOf far) k = lateOf (far.filter fun p => !decide (p.2 = k)) := by
  unfold idel lateOf; rw [List.filter_map]; rfl
theorem iput_late : ∀ {far : List (Int × Int)} {k d : Int}, k ∉ far.map (·.2) → iput (lateOf far) k (.int d) = lateOf (far ++ [(d, k)])
  | [], k, d, _ => rfl
  | q :: far, k, d, h => by
    simp only [List.map_cons, List.mem_cons, not_or] at h
    simp only [lateOf, List.map_cons, iput, h.1, if_false, List.cons_append]
    exact congrArg _ (iput_late h.2)
theorem erase_filter : ∀ {far : List (Int × Int)} {p : Int × Int}, (far.map (·.2)).Nodup → p ∈ far → far.erase p = far.filter fun q => !decide (q.2 = p.2)
  | q :: far, p, nd, h => by
    simp only [List.map_cons, List.nodup_cons] at nd
    rcases List.mem_cons.mp h with rfl | h
    · rw [List.erase_cons_head, List.filter_cons]
      simp only [decide_true, Bool.not_true, Bool.false_eq_true, if_false]
      refine (List.filter_eq_self.mpr fun r hr => ?_).symm
      have : ¬ r.2 = p.2 := fun e => nd.1 (by rw [← e]; exact List.mem_map_of_mem hr)
      simp [this]
    · have ne : q.2 ≠ p.2 := fun e => nd.1 (by rw [e]; exact List.mem_map_of_mem h)
      have : ¬ q = p := fun e => ne (by rw [e])
      rw [List.erase_cons_tail (by simpa using this), List.filter_cons]
      simp only [ne, decide_false, Bool.not_false, if_true]
      exact congrArg _ (erase_filter nd.2 h)
theorem lex_anti {p q : Int × Int} (h1 : lexlt p q = false) (h2 : lexlt q p = false) : p = q := by
  rw [lexlt_false] at h1 h2
  obtain ⟨a, b⟩ := p
  obtain ⟨c, d⟩ := q
  simp only at h1 h2
  have : a = c := by omega
  have : b = d := by omega
  simp [*]
theorem c_number (hK : C.K = hd.heap_39 C.w.params) {k : Nat} {Q : V → Store → Prop} (hr : A.depth < recursionLimit) (hh : A.handled = none) (hk : k ≤ 100) (h : Q (.int (7 * k : Nat)) σ) : CallWP C A (.ref 73) [.int k] σ Q X := by
  walk_at "mdef1"
  intro L A' a1 a2 a3
  have hh' : A'.handled = none := a1.trans hh
  repeat walk_at "m"
  have e : ((k : Int) * 7).fmod 1009 + (k : Int).fdiv 1009 * 1009 = ((7 * k : Nat) : Int) := by
    have h1 : ((k : Int) * 7).fmod 1009 = k * 7 := by rw [Int.fmod_eq_emod_of_nonneg _ (by omega)]; omega
    have h2 : (k : Int).fdiv 1009 = 0 := by rw [Int.fdiv_eq_ediv_of_nonneg _ (by omega)]; omega
    rw [h1, h2]; omega
  rw [e]
  exact h
def rowK (i : Nat) : V := .int (1 + (i : Int))
theorem c_rise (hK : C.K = hd.heap_39 C.w.params) {r : Addr} {ps : List (Int × Int)} {Q : V → Store → Prop} (hr : A.depth < recursionLimit) (hh : A.handled = none) (hu : A.units < 9000) (hl : σ r = some (.list (ps.map pv))) (hz : ps.length ≤ 10000) (hs : ps.Pairwise fun p q => lexlt p q = true)
    (h : Q (.bool true) σ) : CallWP C A (.ref 80) [.ref r] σ Q X := by
  walk_at "mdef1"
  intro L A' a1 a2 a3
  have hh' : A'.handled = none := a1.trans hh
  repeat walk_at "m"
  refine ⟨_, _, ItV.rng hh' (by omega) (by omega) (by simp <;> omega) (by simp <;> omega), ?_⟩
  have e : irange 1 ((ps.map pv).length : Int) = (List.range (ps.length - 1)).map rowK := by
    unfold irange rowK
    congr 2
    simp <;> omega
  rw [e]
  refine ForL.inv rowK (fun rest ρ σ1 => σ1 = σ ∧ (∀ x ∈ rest, x + 1 < ps.length) ∧ ρ.get "_law_rows" = some (.ref r)) ?_ ?_ _ _ _ ⟨rfl, fun x hx => ?_, ?_⟩
  · rintro x xs ρ σ1 ⟨rfl, hx, hρ⟩
    have hx0 := hx x (.head _)
    simp only [rowK]
    repeat walk_at "m"
    refine ItemWP.list (y := pv ps[x]) (.inl hl) (by omega) (by omega) (by rw [show (1 + (x : Int) - 1).toNat = x by omega]; simp [show x < ps.length by omega]) ?_
    repeat walk_at "m"
    refine ItemWP.list (y := pv ps[x + 1]) (.inl hl) (by omega) (by omega) (by rw [show (1 + (x : Int)).toNat = x + 1 by omega]; simp [hx0]) ?_
    refine CmpWP.gePair (by rw [a3]; simp only [cLine]; omega) ?_
    have : lexlt (ps[x].1, ps[x].2) (ps[x + 1].1, ps[x + 1].2) = true := List.pairwise_iff_getElem.mp hs x (x + 1) (by omega) hx0 (by omega)
    rw [this]
    repeat walk_at "m"
    exact ⟨trivial, rfl, fun y hy => hx y (.tail _ hy), by walk_at "mget"⟩
  · rintro ρ σ1 ⟨rfl, -, -⟩
    repeat walk_at "m"
    exact h
  · have := List.mem_range.mp hx; omega
  · walk_at "mget"

theorem ints_room {n : Nat} (h : n < 9000) (xs : List Int) : n + (PyData.list (xs.map PyData.int)).depth < cLine := by
  have := depthAll_map (k := 0) (g := PyData.int) (xs := xs) (fun _ _ => by simp [PyData.depth])
  simp only [PyData.depth, cLine]; omega
theorem c_good (hK : C.K = hd.heap_39 C.w.params) (hN : SysOk C) {a sn lt : Addr} {near : List Int} {far ps : List (Int × Int)} {Q : V → Store → Prop} (hr : A.depth + 1 < recursionLimit) (hh : A.handled = none) (hu : A.units < 8000) (ha : σ a = some (.list ((near ++ ps.map (·.2)).map V.int)))
    (hs : σ sn = some (.list (near.map V.int))) (hl : σ lt = some (.id (lateOf far))) (hp : ps.Perm far) (ho : ps.Pairwise fun p q => lexlt q p = false) (nd : (far.map (·.2)).Nodup) (hz : near.length + far.length ≤ 1000)
    (h : ∀ σ', Grow σ σ' → Q (.bool true) σ') : CallWP C A (.ref 87) [.ref a, .ref sn, .ref lt] σ Q X := by
  have hpl := hp.length_eq
  have hr0 : A.depth < recursionLimit := by omega
  walk_at "mdef3"
  intro L A' a1 a2 a3
  have hh' : A'.handled = none := a1.trans hh
  have hr' : A'.depth < recursionLimit := by rw [a2]; exact hr
  have hu' : A'.units < 9000 := by rw [a3]; omega
  repeat walk_at "m"
  refine CallWP.len_id hl hN (by simp; omega) ?_
  repeat walk_at "m"
  refine Br.f (by simp [hpl]) ?_
  repeat walk_at "m"
  refine ⟨_, _, ItV.list hh' (.inl ha), ?_⟩
  refine ForL.inv V.int (fun rest ρ σ1 => σ1 = σ ∧ ρ.get "_law_found" = some (.ref a) ∧ ρ.get "_law_soon" = some (.ref sn) ∧ ρ.get "_law_late" = some (.ref lt)) ?_ ?_ _ _ _ ⟨rfl, by walk_at "mget", by walk_at "mget", by walk_at "mget"⟩
  · rintro x xs ρ σ1 ⟨rfl, r1, r2, r3⟩
    repeat walk_at "m"
    exact ⟨.inl ha, rfl, by walk_at "mget", by walk_at "mget", by walk_at "mget"⟩
  rintro ρ σ1 ⟨rfl, r1, r2, r3⟩
  repeat walk_at "m"
  refine ⟨_, rfl, ?_⟩
  refine ⟨a, _, rfl, .inl ha, by simp [sizeLine_eq]; omega, fun c hc => ?_⟩
  have ec : pySlice ((near ++ ps.map (·.2)).map V.int) none (some (((near.map V.int).length : Nat) : Int)) = near.map V.int := by
    rw [pySlice_upto _ _ (by simp), List.map_append]
    simp
  rw [ec]
  have hs1 : (σ1.upd c (.list (near.map V.int))) sn = some (.list (near.map V.int)) := by walk_at "mst"
  repeat walk_at "m"
  refine CmpWP.neSame (d := .list (near.map PyData.int)) (.list (.inl Store.hit) (DRs.map fun _ _ => .int _)) (.list (.inl hs1) (DRs.map fun _ _ => .int _)) (by simp only [PyData.canLay0]; exact canLayAll_map fun _ _ => by simp [PyData.canLay0])
    (ints_room hu' near) ?_
  repeat walk_at "m"
  intro rw_ hrw
  repeat walk_at "m"
  obtain ⟨q1, hrw0⟩ := Store.none_ne hrw
  refine ⟨_, rfl, ?_⟩
  refine ⟨a, (near ++ ps.map (·.2)).map V.int, rfl, .inl (by walk_at "mst"), by simp [sizeLine_eq]; omega, fun d hd2 => ?_⟩
  have ed : pySlice ((near ++ ps.map (·.2)).map V.int) (some (((near.map V.int).length : Nat) : Int)) none = (ps.map (·.2)).map V.int := by
    rw [pySlice_from _ _ (by simp), List.map_append]
    simp
  rw [ed]
  obtain ⟨q2, hd0⟩ := Store.none_ne hd2
  obtain ⟨q3, hd0⟩ := Store.none_ne hd0
  refine ⟨_, _, ItV.list hh' (.inl Store.hit), ?_⟩
  rw [List.map_map]
  refine ForL.inv (fun p : Int × Int => V.int p.2) (fun rest ρ σ2 => ∃ done, done ++ rest = ps ∧ Grow σ1 σ2 ∧ σ2 d = some (.list ((ps.map (·.2)).map V.int)) ∧ σ2 rw_ = some (.list (List.map pv done)) ∧ ρ.get "_law_late" = some (.ref lt) ∧ ρ.get "_law_rows" = some (.ref rw_)) ?_ ?_ _ _ _ ⟨[], rfl, ?_, by rw [Store.hit, List.map_map], ?_, ?_, ?_⟩
  · rintro p rest ρ σ2 ⟨done, e, g, gd, gr, r3, r4⟩
    have hpm : p ∈ far := hp.mem_iff.mp (by rw [← e]; simp)
    have hdl : done.length + (rest.length + 1) = ps.length := by rw [← e]; simp
    have hl2 := g _ _ hl
    repeat walk_at "m"
    refine CmpWP.notInId hl2 hN ?_
    rw [iget_late nd hpm]
    repeat walk_at "m"
    refine ItemWP.id hl2 (iget_late nd hpm) ?_
    repeat walk_at "m"
    refine ⟨.inl ?_, done ++ [p], by rw [← e]; simp, g.upd hrw0, ?_, ?_, by walk_at "mget", by walk_at "mget"⟩
    · rw [Store.miss q2 gd, List.map_map]
    · rw [Store.miss q2 gd]
    · rw [Store.hit]; simp [pv]
  · rintro ρ σ2 ⟨done, e, g, gd, gr, r3, r4⟩
    rw [List.append_nil] at e
    subst e
    repeat walk_at "m"
    refine c_rise hK hr' hh' hu' gr (by omega) ?_ (h _ g)
    have ndp : (done.map (·.2)).Nodup := (hp.map (fun p : Int × Int => p.2)).nodup_iff.mpr nd
    refine List.Pairwise.imp_of_mem ?_ (ho.and (List.pairwise_map.mp ndp))
    rintro p q - - ⟨z1, z2⟩
    rw [lexlt_false] at z1
    rw [lexlt_iff]
    have : p.2 ≠ q.2 := z2
    omega
  · exact ((Grow.rfl'.upd hc).upd hrw0).upd hd0
  · rw [Store.miss (Ne.symm q2) Store.hit]; rfl
  · walk_at "mget"
  · walk_at "mget"

structure LawAt (σ : Store) (w dx n f sn lt : Addr) (near : List Int) (far : List (Int × Int)) : Prop where
  W : WAt σ w dx n f near far
  s : σ sn = some (.list (near.map V.int))
  l : σ lt = some (.id (lateOf far))
  qn : sn ≠ n
  qf : sn ≠ f
theorem LawAt.ne {σ : Store} {w dx n f sn lt : Addr} {near : List Int} {far : List (Int × Int)} (H : LawAt σ w dx n f sn lt near far) : lt ≠ n ∧ lt ≠ f ∧ lt ≠ sn ∧ lt ≠ dx ∧ lt ≠ w ∧ sn ≠ dx ∧ sn ≠ w := by
  obtain ⟨W, h5, h6, -, -⟩ := H
  obtain ⟨h1, h2, h3, h4, -⟩ := W
  refine ⟨?_, ?_, ?_, ?_, ?_, ?_, ?_⟩ <;> intro e <;> subst e
  · rw [h6] at h3; cases h3
  · rw [h6] at h4; cases h4
  · rw [h6] at h5; cases h5
  · rw [h6] at h2; cases h2
  · rw [h6] at h1; cases h1
  · rw [h5] at h2; cases h2
  · rw [h5] at h1; cases h1
theorem LawAt.grow {σ σ' : Store} {w dx n f sn lt : Addr} {near : List Int} {far : List (Int × Int)} (H : LawAt σ w dx n f sn lt near far) (g : Grow σ σ') : LawAt σ' w dx n f sn lt near far :=
  ⟨H.W.grow g, g _ _ H.s, g _ _ H.l, H.qn, H.qf⟩
/-- others stand as they stood -/
def Oth (σ σ' : Store) (w dx n f sn lt : Addr) : Prop := ∀ b o, b ≠ w → b ≠ dx → b ≠ n → b ≠ f → b ≠ sn → b ≠ lt → σ b = some o → σ' b = some o
theorem c_taken (hK : C.K = hd.heap_39 C.w.params) (hN : SysOk C) {w dx n f sn lt : Addr} {near : List Int} {far : List (Int × Int)} {Q : V → Store → Prop} (hr : A.depth + 1 < recursionLimit) (hh : A.handled = none) (hu : A.units < 8000) (H : LawAt σ w dx n f sn lt near far)
    (nd : (near ++ far.map (·.2)).Nodup) (hz : near.length ≤ 1000) (h64 : far.length < 64)
    (h : ∀ (σ' : Store) (near' : List Int) (far' : List (Int × Int)), LawAt σ' w dx n f sn lt near' far' → near'.Sublist near → far'.Sublist far → Oth σ σ' w dx n f sn lt → Q (.bool true) σ') : CallWP C A (.ref 94) [.ref w, .ref sn, .ref lt] σ Q X := by
  obtain ⟨m1, m2, m3, m4, m5, m6, m7⟩ := H.ne
  obtain ⟨k1, k2, k3, k4, k5⟩ := H.W.ne
  have hr0 : A.depth < recursionLimit := by omega
  have nd2 : (far.map (·.2)).Nodup := (List.nodup_append.mp nd).2.1
  have nf := H.W.nf
  have sn_ := H.qn
  have sf_ := H.qf
  walk_at "mdef3"
  intro L A' a1 a2 a3
  have hh' : A'.handled = none := a1.trans hh
  have hr' : A'.depth < recursionLimit := by rw [a2]; exact hr
  have hu' : A'.units < 9000 := by rw [a3]; omega
  have hwi := H.W.hw
  have hdi := H.W.hd
  repeat walk_at "m"
  refine c_lineup hK hr' hh' H.W (by omega) h64 fun a σ1 ps g ha hp ho hal => ?_
  have H1 := H.grow g
  have hwi := H1.W.hw
  have hdi := H1.W.hd
  have hpl := hp.length_eq
  have hne_a : ∀ b o, σ b = some o → b ≠ a := fun b o e q => by rw [q, ha] at e; cases e
  repeat walk_at "m"
  refine c_lead hK hr' hh' hu' H1.W (by omega) (by omega) ?_ ?_ ?_
  · rintro x r rfl
    have hn0 := hne_a _ _ H.W.hn
    have hs2 : (σ1.upd n (.list (r.map V.int))) sn = some (.list ((x :: r).map V.int)) := Store.miss H.qn H1.s
    have ha2 : (σ1.upd n (.list (r.map V.int))) a = some (.list (((x :: r) ++ ps.map (·.2)).map V.int)) := Store.miss (Ne.symm hn0) hal
    repeat walk_at "m"
    try refine Br.f (by simp) ?_
    repeat walk_at "m"
    try refine CallWP.len_tup (by simp) ?_
    repeat walk_at "m"
    refine ItemWP.list (y := .int x) (.inl ha2) (by omega) (by omega) (by simp) ?_
    repeat walk_at "m"
    try refine Br.f (by simp) ?_
    repeat walk_at "m"
    try refine Br.t (by simp) ?_
    repeat walk_at "m"
    refine CallWP.pop_at (j := 0) hs2 (by decide) (by rw [seqIndex_of (by omega) (by simp <;> omega)]; rfl) rfl (by simp [sizeLine_eq] at *; omega) ?_
    repeat walk_at "m"
    try refine Br.t (by simp) ?_
    repeat walk_at "m"
    simp only [List.map_cons, List.eraseIdx_cons_zero]
    refine h _ r far ⟨⟨?_, ?_, ?_, ?_, nf⟩, Store.hit, ?_, sn_, sf_⟩ (List.sublist_cons_self ..) (List.Sublist.refl _) fun b o b1 b2 b3 b4 b5 b6 e => Store.miss b5 (Store.miss b3 (g _ _ e))
    · exact Store.miss (Ne.symm m7) (Store.miss k2 H1.W.hw)
    · exact Store.miss (Ne.symm m6) (Store.miss k4 H1.W.hd)
    · exact Store.miss (Ne.symm sn_) Store.hit
    · exact Store.miss (Ne.symm sf_) (Store.miss (Ne.symm nf) H1.W.hf)
    · exact Store.miss m3 (Store.miss m1 H1.l)
  · rintro rfl rfl
    have hs2 := H1.s
    have hl2 := H1.l
    repeat walk_at "m"
    try refine Br.t (by simp) ?_
    repeat walk_at "m"
    refine TruWP.id hl2 hN (by simp) ?_
    repeat walk_at "m"
    exact h σ1 [] [] H1 (List.Sublist.refl _) (List.Sublist.refl _) fun b o _ _ _ _ _ _ e => g _ _ e
  · rintro rfl p hpm hmin
    have hf0 := hne_a _ _ H.W.hf
    have hs2 : (σ1.upd f (.list ((far.erase p).map pv))) sn = some (.list (([] : List Int).map V.int)) := Store.miss H.qf H1.s
    have hl2 : (σ1.upd f (.list ((far.erase p).map pv))) lt = some (.id (lateOf far)) := Store.miss m2 H1.l
    have ha2 : (σ1.upd f (.list ((far.erase p).map pv))) a = some (.list ((([] : List Int) ++ ps.map (·.2)).map V.int)) := Store.miss (Ne.symm hf0) hal
    obtain ⟨p0, ps', rfl⟩ : ∃ p0 ps', ps = p0 :: ps' := by
      cases ps with
      | nil => exact absurd (hp.mem_iff.mpr hpm) (by simp)
      | cons a b => exact ⟨a, b, rfl⟩
    have hp0 : p0 = p := by
      have h1 : p0 ∈ far := hp.mem_iff.mp (.head _)
      have h2 : p ∈ p0 :: ps' := hp.mem_iff.mpr hpm
      rcases List.mem_cons.mp h2 with z | z
      · exact z.symm
      · exact lex_anti (hmin p0 h1) ((List.pairwise_cons.mp ho).1 p z)
    subst hp0
    repeat walk_at "m"
    try refine Br.t (by simp) ?_
    repeat walk_at "m"
    refine TruWP.id hl2 hN (by simp; omega) ?_
    repeat walk_at "m"
    refine Br.f (by cases far with | nil => exact absurd hpm (by simp) | cons _ _ => simp) ?_
    repeat walk_at "m"
    try refine CallWP.len_tup (by simp) ?_
    repeat walk_at "m"
    refine ItemWP.list (y := .int p0.2) (.inl ha2) (by omega) (by omega) (by simp) ?_
    repeat walk_at "m"
    try refine Br.f (by simp) ?_
    repeat walk_at "m"
    try refine Br.f (by simp) ?_
    repeat walk_at "m"
    refine CmpWP.notInId hl2 hN ?_
    rw [iget_late nd2 hpm]
    repeat walk_at "m"
    refine ItemWP.id hl2 (iget_late nd2 hpm) ?_
    repeat walk_at "m"
    try refine Br.f (by simp) ?_
    repeat walk_at "m"
    refine CallWP.idpop hl2 (by simp [sizeLine_eq]; omega) (iget_late nd2 hpm) ?_
    repeat walk_at "m"
    rw [idel_late, ← erase_filter nd2 hpm]
    refine h _ [] (far.erase p0) ⟨⟨?_, ?_, ?_, ?_, nf⟩, ?_, Store.hit, sn_, sf_⟩ (List.Sublist.refl _) List.erase_sublist fun b o b1 b2 b3 b4 b5 b6 e => Store.miss b6 (Store.miss b4 (g _ _ e))
    · exact Store.miss (Ne.symm m5) (Store.miss k3 H1.W.hw)
    · exact Store.miss (Ne.symm m4) (Store.miss k5 H1.W.hd)
    · exact Store.miss (Ne.symm m1) (Store.miss nf H1.W.hn)
    · exact Store.miss (Ne.symm m2) Store.hit
    · exact Store.miss (Ne.symm m3) (Store.miss sf_ H1.s)

theorem Exs.cut {env : Env} {ρ : Rho} {st : Stmt} {ss : List Stmt} {Q : FV → Rho → Store → Prop} (P : Rho → Store → Prop) (h1 : Ex C A env st ρ σ (fun g ρ' σ' => g = .next ∧ P ρ' σ') X) (h2 : ∀ ρ' σ', P ρ' σ' → Exs C A env ss ρ' σ' Q X) : Exs C A env (st :: ss) ρ σ Q X :=
  Exs.cons (h1.mono fun g ρ' σ' ⟨e, p⟩ => by subst e; exact h2 ρ' σ' p)
theorem idx_ints (p : Int) : ∀ (l : List Int), p ∈ l → (l.map PyData.int).findIdx? (fun y => PyData.eqv y (.int p)) = some (l.idxOf p)
  | q :: l, h => by
    rw [List.map_cons, List.findIdx?_cons, List.idxOf_cons]
    have e : PyData.eqv (.int q) (.int p) = (q == p) := by simp [PyData.eqv]
    rw [e]
    cases z : q == p with
    | true => rfl
    | false =>
      have : p ∈ l := by
        rcases List.mem_cons.mp h with w | w
        · rw [w] at z; simp at z
        · exact w
      simp [idx_ints p l this]
theorem any_ints (x : Int) (ns : List Int) : ((ns.map PyData.int).any fun y => PyData.eqv y (.int x)) = ns.contains x := by
  rw [Bool.eq_iff_iff]
  simp [PyData.eqv]
theorem CallWP.removeI {l : Addr} {xs : List Int} {x : Int} {Q : V → Store → Prop} (hl : σ l = some (.list (xs.map V.int))) (hu : A.units < 9000) (hz : xs.length ≤ 10000) (hx : x ∈ xs) (h : Q .none (σ.upd l (.list ((xs.erase x).map V.int)))) : CallWP C A (.builtin "list.remove") [.ref l, .int x] σ Q X := by
  refine CallWP.remove (d := .int x) hl (.int _) (DRs.map (g := PyData.int) fun _ _ => .int _) (by simp [PyData.canLay0]) (canLayAll_map fun _ _ => by simp [PyData.canLay0]) (by simp only [PyData.depth, cLine]; omega) (by simp [sizeLine_eq]; omega) (idx_ints x xs hx) ?_
  have e : List.eraseIdx (xs.map V.int) (xs.idxOf x) = (xs.erase x).map V.int := by
    rw [List.erase_eq_eraseIdx_of_idxOf rfl, eraseIdx_map']
  rw [e]; exact h
theorem CmpWP.inI {l : Addr} {xs : List Int} {x : Int} {Q : V → Store → Prop} (hl : LstAt C σ l (xs.map V.int)) (hu : A.units < 9000) (h : Q (.bool (xs.contains x)) σ) : CmpWP C A .In (.int x) (.ref l) σ Q X := by
  refine CmpWP.inL (ds := xs.map PyData.int) hl (.int _) (DRs.map fun _ _ => .int _) (by simp [PyData.canLay0]) (canLayAll_map fun _ _ => by simp [PyData.canLay0]) (by simp only [PyData.depth, cLine]; omega) ?_
  rw [any_ints]; exact h
theorem filt_more {α : Type} (g : α → Int) (xs : List α) (ds : List Int) (n : Int) : (xs.filter fun p => !ds.contains (g p)).filter (fun p => !decide (g p = n)) = xs.filter fun p => !(ds ++ [n]).contains (g p) := by
  rw [List.filter_filter]
  refine List.filter_congr fun p _ => ?_
  rw [Bool.eq_iff_iff]
  simp [and_comm]
theorem c_dropped (hK : C.K = hd.heap_39 C.w.params) (hN : SysOk C) {w dx n f sn lt : Addr} {near : List Int} {far : List (Int × Int)} {c : Int} {k : Nat} {Q : V → Store → Prop} (hr : A.depth + 1 < recursionLimit) (hh : A.handled = none) (hu : A.units < 8000) (H : LawAt σ w dx n f sn lt near far)
    (nd : (near ++ far.map (·.2)).Nodup) (hz : near.length ≤ 1000) (h64 : far.length < 64) (hk : k ≤ 90)
    (h : ∀ (σ' : Store) (n' f' : Addr) (near' : List Int) (far' : List (Int × Int)), LawAt σ' w dx n' f' sn lt near' far' → near'.Sublist near → far'.Sublist far → (∀ b o, b ≠ dx → b ≠ sn → b ≠ lt → σ b = some o → σ' b = some o) → Q (.bool true) σ') :
    CallWP C A (.ref 99) [.ref w, .int c, .int k, .ref sn, .ref lt] σ Q X := by
  obtain ⟨m1, m2, m3, m4, m5, m6, m7⟩ := H.ne
  obtain ⟨k1, k2, k3, k4, k5⟩ := H.W.ne
  have hr0 : A.depth < recursionLimit := by omega
  have ndn : near.Nodup := (List.nodup_append.mp nd).1
  have ndf : (far.map (·.2)).Nodup := (List.nodup_append.mp nd).2.1
  walk_at "mdef5"
  intro L A' a1 a2 a3
  have hh' : A'.handled = none := a1.trans hh
  have hr' : A'.depth < recursionLimit := by rw [a2]; exact hr
  have hu' : A'.units < 9000 := by rw [a3]; omega
  repeat walk_at "m"
  have b0 : 0 ≤ c.fmod 4 := Int.fmod_nonneg_of_pos _ (by omega)
  have b1 : c.fmod 4 < 4 := Int.fmod_lt_of_pos _ (by omega)
  refine ⟨_, _, ItV.rng hh' (by omega) (by omega) (by omega) (by omega), fun L' => ?_⟩
  refine CmpL.pure (fun _ => true) (fun y => match y with | .int i => .int (7 * ((c.fdiv 3 + 7 * i).fmod (k + 2))) | _ => .none) trivial _ _ ?_ ?_ (by simp [irange, sizeLine_eq]; omega) ?_
  · intro y hy Q hQ
    repeat walk_at "m"
    exact hQ
  · intro y hy _ Q hQ
    obtain ⟨i, hi, rfl⟩ := List.mem_map.mp hy
    have hi4 : i < 4 := by have := List.mem_range.mp hi; omega
    repeat walk_at "m"
    refine BinWP.fmod_int (by omega) ?_
    repeat walk_at "m"
    have c0 : 0 ≤ (c.fdiv 3 + 7 * (0 + (i : Int))).fmod (k + 2) := Int.fmod_nonneg_of_pos _ (by omega)
    have c1 : (c.fdiv 3 + 7 * (0 + (i : Int))).fmod (k + 2) < k + 2 := Int.fmod_lt_of_pos _ (by omega)
    obtain ⟨j, ej⟩ := Int.eq_ofNat_of_zero_le c0
    have hQ' : Q (.int (7 * ((c.fdiv 3 + 7 * (0 + (i : Int))).fmod (k + 2)))) σ := hQ
    rw [ej] at c1 hQ' ⊢
    refine c_number hK hr' hh' (by omega) ?_
    have : ((7 * j : Nat) : Int) = 7 * (j : Int) := by omega
    rw [this]; exact hQ'
  intro nl hnl
  obtain ⟨ns, hns⟩ : ∃ ns : List Int, ([] : List V) ++ List.map (fun y => match y with | V.int i => .int (7 * ((c.fdiv 3 + 7 * i).fmod (k + 2))) | _ => .none) (List.filter (fun _ => true) (irange 0 (c.fmod 4))) = ns.map V.int ∧ ns.length ≤ 4 := by
    refine ⟨(List.range (c.fmod 4 - 0).toNat).map fun (i : Nat) => 7 * ((c.fdiv 3 + 7 * (0 + (i : Int))).fmod (k + 2)), ?_, by simp; omega⟩
    rw [List.nil_append, List.filter_eq_self.mpr (fun _ _ => rfl), irange, List.map_map, List.map_map]
    rfl
  obtain ⟨hns, hn4⟩ := hns
  rw [hns]
  have Hn := H.grow (Grow.rfl'.fresh (o := .list (ns.map V.int)) hnl)
  have hnl1 : (σ.upd nl (.list (ns.map V.int))) nl = some (.list (ns.map V.int)) := Store.hit
  have hk1 : ∀ b o, σ b = some o → (σ.upd nl (.list (ns.map V.int))) b = some o := fun b o e => Store.at_fresh hnl e
  have hnlne : ∀ b o, σ b = some o → nl ≠ b := fun b o e q => by rw [← q, hnl] at e; cases e
  generalize σ.upd nl (.list (ns.map V.int)) = σ1 at *
  repeat walk_at "m"
  intro gv hgv
  have H2 := Hn.grow (Grow.rfl'.fresh (o := .list (ns.map V.int)) hgv)
  have hnl2 := Store.at_fresh (o := .list (ns.map V.int)) hgv hnl1
  have hgv2 : (σ1.upd gv (.list (ns.map V.int))) gv = some (.list (ns.map V.int)) := Store.hit
  have hk2 : ∀ b o, σ b = some o → (σ1.upd gv (.list (ns.map V.int))) b = some o := fun b o e => Store.at_fresh hgv (hk1 b o e)
  have hgvne : ∀ b o, σ1 b = some o → gv ≠ b := fun b o e q => by rw [← q, hgv] at e; cases e
  have g1 := hgvne _ _ Hn.W.hd
  have g2 := hgvne _ _ hnl1
  have g3 := hgvne _ _ Hn.s
  have g4 := hgvne _ _ Hn.l
  have g5 := hnlne _ _ H.W.hd
  have g6 := hnlne _ _ H.s
  have g7 := hnlne _ _ H.l
  generalize σ1.upd gv (.list (ns.map V.int)) = σ2 at *
  have hwi := H2.W.hw
  have hdi := H2.W.hd
  repeat walk_at "m"
  refine c_drop hK hr' hh' hu' H2.W hgv2 (by omega) (by omega) fun n' f' σ3 kp hn' hf' W3 => ?_
  have hgv3 := kp _ _ g1 hgv2
  have hnl3 := kp _ _ g5 hnl2
  have hs3 := kp _ _ m6 H2.s
  have hl3 := kp _ _ m4 H2.l
  repeat walk_at "m"
  refine CmpWP.eqSame (d := .list (ns.map PyData.int)) (.list (.inl hgv3) (DRs.map fun _ _ => .int _)) (.list (.inl hnl3) (DRs.map fun _ _ => .int _)) (by simp only [PyData.canLay0]; exact canLayAll_map fun _ _ => by simp [PyData.canLay0]) (ints_room hu' ns) ?_
  repeat walk_at "m"
  refine CallWP.clear hgv3 (by simp [sizeLine_eq]; omega) ?_
  have hnl4 : (σ3.upd gv (.list [])) nl = some (.list (ns.map V.int)) := Store.miss (Ne.symm g2) hnl3
  repeat walk_at "m"
  have q1 : sn ≠ n' := fun e => by rw [← e, H2.s] at hn'; cases hn'
  have q2 : sn ≠ f' := fun e => by rw [← e, H2.s] at hf'; cases hf'
  have q3 : lt ≠ n' := fun e => by rw [← e, H2.l] at hn'; cases hn'
  have q4 : lt ≠ f' := fun e => by rw [← e, H2.l] at hf'; cases hf'
  have q5 : gv ≠ n' := fun e => by rw [← e, hgv2] at hn'; cases hn'
  have q6 : gv ≠ f' := fun e => by rw [← e, hgv2] at hf'; cases hf'
  have q7 : w ≠ gv := fun e => by rw [← e, hwi] at hgv2; cases hgv2
  refine ⟨_, _, ItV.list hh' (.inl hnl4), ?_⟩
  refine ForL.inv V.int (fun rest ρ σ4 => ∃ ds, ds ++ rest = ns ∧ σ4 sn = some (.list (List.map V.int (near.filter fun x => !ds.contains x))) ∧ σ4 lt = some (.id (lateOf (far.filter fun p => !ds.contains p.2))) ∧ (∀ b o, b ≠ sn → b ≠ lt → (σ3.upd gv (.list [])) b = some o → σ4 b = some o) ∧
    ρ.get "_law_soon" = some (.ref sn) ∧ ρ.get "_law_late" = some (.ref lt) ∧ ρ.get "_law_stays" = some (.bool true)) ?_ ?_ _ _ _ ⟨[], rfl, ?_, ?_, fun _ _ _ _ e => e, ?_, ?_, ?_⟩
  · rintro x rest ρ σ4 ⟨ds, e, s4, l4, o4, r1, r2, r3⟩
    have hb1 : (near.filter fun x => !ds.contains x).length ≤ 10000 := Nat.le_trans (List.length_filter_le ..) (by omega)
    have hb2 : (far.filter fun p => !ds.contains p.2).length ≤ 64 := Nat.le_trans (List.length_filter_le ..) (by omega)
    have nf1 : (near.filter fun x => !ds.contains x).Nodup := ndn.filter _
    have nf2 : ((far.filter fun p => !ds.contains p.2).map (·.2)).Nodup := ndf.sublist (List.filter_sublist.map _)
    have fm : (near.filter fun p => !ds.contains p).filter (fun p => !decide (p = x)) = near.filter fun p => !(ds ++ [x]).contains p := filt_more (fun y : Int => y) near ds x
    walk_at "m"
    refine Exs.cut (fun ρ5 σ5 => σ5 sn = some (.list (List.map V.int (near.filter fun y => !(ds ++ [x]).contains y))) ∧ σ5 lt = some (.id (lateOf (far.filter fun p => !ds.contains p.2))) ∧ (∀ b o, b ≠ sn → b ≠ lt → (σ3.upd gv (.list [])) b = some o → σ5 b = some o) ∧
      ρ5.get "_law_soon" = some (.ref sn) ∧ ρ5.get "_law_late" = some (.ref lt) ∧ ρ5.get "_law_stays" = some (.bool true) ∧ ρ5.get "_law_number_here" = some (.int x)) ?_ ?_
    · repeat walk_at "m"
      refine CmpWP.inI (.inl s4) hu' ?_
      repeat walk_at "m"
      cases hx : (near.filter fun y => !ds.contains y).contains x with
      | true =>
        refine Br.t rfl ?_
        repeat walk_at "m"
        refine CallWP.removeI s4 hu' hb1 (by simpa using hx) ?_
        repeat walk_at "m"
        refine ⟨rfl, ?_, Store.miss m3 l4, fun b o b1 b2 e => Store.miss b1 (o4 b o b1 b2 e), by walk_at "mget", by walk_at "mget", by walk_at "mget", by walk_at "mget"⟩
        rw [Store.hit, nf1.erase_eq_filter, ← fm]
        congr 3
      | false =>
        refine Br.f rfl ?_
        repeat walk_at "m"
        refine ⟨rfl, ?_, l4, o4, by walk_at "mget", by walk_at "mget", by walk_at "mget", by walk_at "mget"⟩
        rw [s4, ← fm]
        congr 3
        refine (List.filter_eq_self.mpr fun y hy => ?_).symm
        have : ¬ y = x := fun q => by
          rw [← Bool.not_eq_true] at hx
          exact hx (by simpa [q] using hy)
        simpa using this
    · rintro ρ5 σ5 ⟨s5, l5, o5, t1, t2, t3, t4⟩
      have nl5 : σ5 nl = some (.list (ns.map V.int)) := o5 _ _ g6 g7 hnl4
      repeat walk_at "m"
      refine CmpWP.inId l5 hN ?_
      rw [iget_some nf2]
      repeat walk_at "m"
      cases hx : ((far.filter fun p => !ds.contains p.2).map (·.2)).contains x with
      | true =>
        refine Br.t rfl ?_
        repeat walk_at "m"
        obtain ⟨p, hp, rfl⟩ := List.mem_map.mp (by simpa using hx : x ∈ (far.filter fun p => !ds.contains p.2).map (·.2))
        refine CallWP.idpop l5 (by simp only [List.length_map, sizeLine_eq]; omega) (iget_late nf2 hp) ?_
        repeat walk_at "m"
        refine ⟨.inl (Store.miss g7 nl5), ds ++ [p.2], by simpa using e, Store.miss (Ne.symm m3) s5, ?_, fun b o b1 b2 e => Store.miss b2 (o5 b o b1 b2 e), by walk_at "mget", by walk_at "mget", by walk_at "mget"⟩
        rw [Store.hit, idel_late, filt_more]
      | false =>
        refine Br.f rfl ?_
        repeat walk_at "m"
        refine ⟨.inl nl5, ds ++ [x], by simpa using e, s5, ?_, o5, by walk_at "mget", by walk_at "mget", by walk_at "mget"⟩
        rw [l5, ← filt_more]
        congr 2
        refine congrArg _ (List.filter_eq_self.mpr fun p hp => ?_).symm
        have : ¬ p.2 = x := fun q => by
          rw [← Bool.not_eq_true] at hx
          exact hx (by rw [← q]; simp only [List.contains_iff_mem]; exact List.mem_map_of_mem hp)
        simp [this]
  · rintro ρ σ4 ⟨ds, e, s4, l4, o4, r1, r2, r3⟩
    rw [List.append_nil] at e
    subst e
    repeat walk_at "m"
    refine h σ4 n' f' _ _ ⟨⟨?_, ?_, ?_, ?_, W3.nf⟩, s4, l4, q1, q2⟩ List.filter_sublist List.filter_sublist fun b o b1 b2 b3 e => ?_
    · exact o4 _ _ (Ne.symm m7) (Ne.symm m5) (Store.miss q7 W3.hw)
    · exact o4 _ _ (Ne.symm m6) (Ne.symm m4) (Store.miss (Ne.symm g1) W3.hd)
    · exact o4 _ _ (Ne.symm q1) (Ne.symm q3) (Store.miss (Ne.symm q5) W3.hn)
    · exact o4 _ _ (Ne.symm q2) (Ne.symm q4) (Store.miss (Ne.symm q6) W3.hf)
    · exact o4 _ _ b2 b3 (Store.miss (Ne.symm (hgvne _ _ (hk1 _ _ e))) (kp _ _ b1 (hk2 _ _ e)))
  · have e0 : near.filter (fun x => !([] : List Int).contains x) = near := List.filter_eq_self.mpr fun _ _ => rfl
    rw [Store.miss (Ne.symm g3) hs3, e0]
  · have e0 : far.filter (fun p => !([] : List Int).contains p.2) = far := List.filter_eq_self.mpr fun _ _ => rfl
    rw [Store.miss (Ne.symm g4) hl3, e0]
  · walk_at "mget"
  · walk_at "mget"
  · walk_at "mget"

theorem Br.both {b : Bool} {p q : Prop} (h1 : p) (h2 : q) : if b = true then p else q := by split <;> assumption
structure Num (near : List Int) (far : List (Int × Int)) (k : Nat) : Prop where
  nd : (near ++ far.map (·.2)).Nodup
  lt : ∀ x ∈ near ++ far.map (·.2), ∃ j : Nat, j < k ∧ x = ((7 * j : Nat) : Int)
  len : near.length + far.length ≤ k
theorem Num.sub {near near' : List Int} {far far' : List (Int × Int)} {k : Nat} (N : Num near far k) (h1 : near'.Sublist near) (h2 : far'.Sublist far) : Num near' far' k := by
  have s := h1.append (h2.map (fun p : Int × Int => p.2))
  exact ⟨N.nd.sublist s, fun x hx => N.lt x (s.subset hx), Nat.le_trans (Nat.add_le_add h1.length_le h2.length_le) N.len⟩
theorem Num.new {near : List Int} {far : List (Int × Int)} {k : Nat} (N : Num near far k) : ((7 * k : Nat) : Int) ∉ near ++ far.map (·.2) := fun h => by
  obtain ⟨j, hj, e⟩ := N.lt _ h
  omega
theorem Num.soon {near : List Int} {far : List (Int × Int)} {k : Nat} (N : Num near far k) : Num (near ++ [((7 * k : Nat) : Int)]) far (k + 1) := by
  have hn := N.new
  refine ⟨?_, fun x hx => ?_, by have := N.len; simp; omega⟩
  · have p : (near ++ [((7 * k : Nat) : Int)] ++ far.map (·.2)).Perm (((7 * k : Nat) : Int) :: (near ++ far.map (·.2))) := by
      rw [List.append_assoc]; exact List.perm_middle
    exact p.nodup_iff.mpr (List.nodup_cons.mpr ⟨hn, N.nd⟩)
  · have : x ∈ near ++ far.map (·.2) ∨ x = ((7 * k : Nat) : Int) := by
      simp only [List.mem_append, List.mem_singleton] at hx ⊢
      rcases hx with (h | h) | h
      · exact .inl (.inl h)
      · exact .inr h
      · exact .inl (.inr h)
    rcases this with h | h
    · obtain ⟨j, hj, e⟩ := N.lt x h
      exact ⟨j, by omega, e⟩
    · exact ⟨k, by omega, h⟩
theorem Num.late {near : List Int} {far : List (Int × Int)} {k : Nat} (N : Num near far k) (d : Int) : Num near (far ++ [(d, ((7 * k : Nat) : Int))]) (k + 1) := by
  have hn := N.new
  refine ⟨?_, fun x hx => ?_, by have := N.len; simp; omega⟩
  · have p : (near ++ (far ++ [(d, ((7 * k : Nat) : Int))]).map (·.2)).Perm (((7 * k : Nat) : Int) :: (near ++ far.map (·.2))) := by
      rw [List.map_append, ← List.append_assoc]; exact List.perm_append_singleton ..
    exact p.nodup_iff.mpr (List.nodup_cons.mpr ⟨hn, N.nd⟩)
  · have : x ∈ near ++ far.map (·.2) ∨ x = ((7 * k : Nat) : Int) := by
      rw [List.map_append, ← List.append_assoc] at hx
      simpa [or_assoc] using hx
    rcases this with h | h
    · obtain ⟨j, hj, e⟩ := N.lt x h
      exact ⟨j, by omega, e⟩
    · exact ⟨k, by omega, h⟩
theorem c_law (hK : C.K = hd.heap_39 C.w.params) (hN : SysOk C) {l : Addr} {cs : List Int} (hl : BaseL C l (cs.map V.int)) (hn : cs.length ≤ 63) : CallWP C callerA (.ref 106) [.ref l] (fun _ => none) (fun v _ => v = .bool true) (fun _ _ => False) := by
  have hr0 : callerA.depth < recursionLimit := by decide
  walk_at "mdef1"
  intro L A' a1 a2 a3
  have hh' : A'.handled = none := a1
  have hr' : A'.depth + 1 < recursionLimit := by rw [a2]; decide
  have hr1 : A'.depth < recursionLimit := by omega
  have hu : A'.units < 8000 := by rw [a3]; decide
  repeat walk_at "m"
  refine c_Waits hK hr' hh' fun w dx n f σ0 g0 hw hdx hn0 hf0 W0 => ?_
  repeat walk_at "m"
  intro sn hsn
  have W1 := W0.grow (Grow.rfl'.fresh (o := .list []) hsn)
  have hs1 : (σ0.upd sn (.list [])) sn = some (.list []) := Store.hit
  have sne : ∀ b o, σ0 b = some o → sn ≠ b := fun b o e q => by rw [← q, hsn] at e; cases e
  have z1 := sne _ _ W0.hn
  have z2 := sne _ _ W0.hf
  generalize σ0.upd sn (.list []) = σ1 at *
  repeat walk_at "m"
  refine Ev.dict0i fun lt hlt => ?_
  have H0 : LawAt (σ1.upd lt (.id [])) w dx n f sn lt [] [] := ⟨W1.grow (Grow.rfl'.fresh hlt), Store.at_fresh hlt hs1, Store.hit, z1, z2⟩
  generalize σ1.upd lt (.id []) = σ2 at *
  repeat walk_at "m"
  refine ⟨_, _, ItV.list hh' (.inr hl), ?_⟩
  refine ForL.inv V.int (fun rest ρ σ3 => ∃ n f near far k, LawAt σ3 w dx n f sn lt near far ∧ Num near far k ∧ k + rest.length ≤ 63 ∧ ρ.get "_law_waits" = some (.ref w) ∧ ρ.get "_law_soon" = some (.ref sn) ∧ ρ.get "_law_late" = some (.ref lt) ∧ ρ.get "_law_count" = some (.int (k : Nat))) ?_ ?_ _ _ _
    ⟨n, f, [], [], 0, H0, ⟨by simp, by simp, by simp⟩, by simpa using hn, by walk_at "mget", by walk_at "mget", by walk_at "mget", by show _ = some (V.int 0); walk_at "mget"⟩
  · rintro c rest ρ σ3 ⟨n, f, near, far, k, H, N, hk, r1, r2, r3, r4⟩
    simp only [List.length_cons] at hk
    have hlen := N.len
    have hwi := H.W.hw
    have hdi := H.W.hd
    repeat walk_at "m"
    refine c_lineup hK hr1 hh' H.W (by omega) (by omega) fun a σ4 ps g4 ha hp ho hal => ?_
    have H4 := H.grow g4
    have hpl := hp.length_eq
    repeat walk_at "m"
    intro b hb
    have H5 := H4.grow (Grow.rfl'.fresh (o := .list ((near ++ ps.map (·.2)).map V.int)) hb)
    have ha5 := Store.at_fresh (o := .list ((near ++ ps.map (·.2)).map V.int)) hb hal
    have hb5 : (σ4.upd b (.list ((near ++ ps.map (·.2)).map V.int))) b = some (.list ((near ++ ps.map (·.2)).map V.int)) := Store.hit
    have ane : ∀ x o, σ3 x = some o → a ≠ x := fun x o e q => by rw [← q, ha] at e; cases e
    have bne : ∀ x o, σ4 x = some o → b ≠ x := fun x o e q => by rw [← q, hb] at e; cases e
    have a_w := ane _ _ H.W.hw
    have a_d := ane _ _ H.W.hd
    have a_n := ane _ _ H.W.hn
    have a_f := ane _ _ H.W.hf
    have a_s := ane _ _ H.s
    have a_l := ane _ _ H.l
    have b_w := bne _ _ H4.W.hw
    have b_d := bne _ _ H4.W.hd
    have b_n := bne _ _ H4.W.hn
    have b_f := bne _ _ H4.W.hf
    have b_s := bne _ _ H4.s
    have b_l := bne _ _ H4.l
    have hlsz : (near ++ ps.map (·.2)).length ≤ 1000 := by have := hp.length_eq; simp; omega
    generalize σ4.upd b (.list ((near ++ ps.map (·.2)).map V.int)) = σ5 at *
    have hwi := H5.W.hw
    have hdi := H5.W.hd
    obtain ⟨m1, m2, m3, m4, m5, m6, m7⟩ := H5.ne
    obtain ⟨k1, k2, k3, k4, k5⟩ := H5.W.ne
    have nf := H5.W.nf
    have qn := H5.qn
    have qf := H5.qf
    have hs5 := H5.s
    have hl5 := H5.l
    repeat walk_at "m"
    refine c_number hK hr1 hh' (by omega) ?_
    walk_at "m"
    walk_at "m"
    have c0 : 0 ≤ c.fmod 9 := Int.fmod_nonneg_of_pos _ (by omega)
    have c1 : c.fmod 9 < 9 := Int.fmod_lt_of_pos _ (by omega)
    refine Exs.cut (fun ρ6 σ6 => ∃ n f near' far' k, LawAt σ6 w dx n f sn lt near' far' ∧ Num near' far' k ∧ k + rest.length ≤ 63 ∧ σ6 a = some (.list ((near ++ ps.map (·.2)).map V.int)) ∧ σ6 b = some (.list ((near ++ ps.map (·.2)).map V.int)) ∧
      ρ6.get "_law_waits" = some (.ref w) ∧ ρ6.get "_law_soon" = some (.ref sn) ∧ ρ6.get "_law_late" = some (.ref lt) ∧ ρ6.get "_law_count" = some (.int (k : Nat)) ∧ ρ6.get "_law_kept" = some (.ref a) ∧ ρ6.get "_law_ahead" = some (.ref b)) ?_ ?_
    · repeat walk_at "m"
      by_cases h1 : c.fmod 9 < 2
      · refine Br.t (by simpa using h1) ?_
        repeat walk_at "m"
        refine c_sooner hK hr1 hh' H5.W (by omega) ?_
        have hs6 : (σ5.upd n (.list ((near ++ [((7 * k : Nat) : Int)]).map V.int))) sn = some (.list (near.map V.int)) := Store.miss qn hs5
        repeat walk_at "m"
        refine ⟨rfl, n, f, near ++ [((7 * k : Nat) : Int)], far, k + 1, ⟨⟨?_, ?_, ?_, ?_, nf⟩, ?_, ?_, qn, qf⟩, N.soon, by omega, ?_, ?_, by walk_at "mget", by walk_at "mget", by walk_at "mget", ?_, by walk_at "mget", by walk_at "mget"⟩
        · walk_at "mst"
        · walk_at "mst"
        · walk_at "mst"
        · exact Store.miss (Ne.symm qf) (Store.miss (Ne.symm nf) H5.W.hf)
        · rw [Store.hit]; simp
        · walk_at "mst"
        · walk_at "mst"
        · walk_at "mst"
        · have : (((k + 1 : Nat)) : Int) = (k : Int) + 1 := by omega
          rw [this]; walk_at "mget"
      · refine Br.f (by simpa using h1) ?_
        repeat walk_at "m"
        by_cases h2 : c.fmod 9 < 6
        · refine Br.t (by simpa using h2) ?_
          repeat walk_at "m"
          have hnew : ((7 * k : Nat) : Int) ∉ far.map (·.2) := fun h => N.new (List.mem_append_right _ h)
          refine Br.both ?_ ?_ <;> (repeat walk_at "m") <;> (
            refine c_later hK hr1 hh' H5.W (by omega) ?_
            repeat walk_at "m"
            refine SetWP.id (Store.miss m2 hl5) (by simp only [List.length_map, sizeLine_eq]; omega) ?_
            rw [iput_late hnew]
            repeat walk_at "m"
            refine ⟨rfl, n, f, near, far ++ [(_, ((7 * k : Nat) : Int))], k + 1, ⟨⟨?_, ?_, ?_, ?_, nf⟩, ?_, Store.hit, qn, qf⟩, N.late _, by omega, ?_, ?_, by walk_at "mget", by walk_at "mget", by walk_at "mget", ?_, by walk_at "mget", by walk_at "mget"⟩
            · exact Store.miss (Ne.symm m5) (Store.miss k3 hwi)
            · exact Store.miss (Ne.symm m4) (Store.miss k5 hdi)
            · exact Store.miss (Ne.symm m1) (Store.miss nf H5.W.hn)
            · exact Store.miss (Ne.symm m2) Store.hit
            · exact Store.miss (Ne.symm m3) (Store.miss qf hs5)
            · exact Store.miss a_l (Store.miss a_f ha5)
            · exact Store.miss b_l (Store.miss b_f hb5)
            · have : (((k + 1 : Nat)) : Int) = (k : Int) + 1 := by omega
              rw [this]; walk_at "mget")
        · refine Br.f (by simpa using h2) ?_
          repeat walk_at "m"
          by_cases h3 : c.fmod 9 = 6
          · refine Br.t (by simpa using h3) ?_
            repeat walk_at "m"
            refine c_dropped hK hN hr' hh' hu H5 N.nd (by omega) (by omega) (by omega) fun σ6 n' f' near' far' H6 s1 s2 kp => ?_
            repeat walk_at "m"
            exact ⟨rfl, n', f', near', far', k, H6, N.sub s1 s2, by omega, kp _ _ a_d a_s a_l ha5, kp _ _ b_d b_s b_l hb5, by walk_at "mget", by walk_at "mget", by walk_at "mget", by walk_at "mget", by walk_at "mget", by walk_at "mget"⟩
          · refine Br.f (by simpa using h3) ?_
            repeat walk_at "m"
            refine c_taken hK hN hr' hh' hu H5 N.nd (by omega) (by omega) fun σ6 near' far' H6 s1 s2 kp => ?_
            repeat walk_at "m"
            exact ⟨rfl, n, f, near', far', k, H6, N.sub s1 s2, by omega, kp _ _ a_w a_d a_n a_f a_s a_l ha5, kp _ _ b_w b_d b_n b_f b_s b_l hb5, by walk_at "mget", by walk_at "mget", by walk_at "mget", by walk_at "mget", by walk_at "mget", by walk_at "mget"⟩
    · rintro ρ6 σ6 ⟨n6, f6, near', far', k', H6, N6, hk6, ha6, hb6, t1, t2, t3, t4, t5, t6⟩
      have hlen6 := N6.len
      have hwi := H6.W.hw
      have hdi := H6.W.hd
      repeat walk_at "m"
      refine c_lineup hK hr1 hh' H6.W (by omega) (by omega) fun a7 σ7 ps7 g7 ha7 hp7 ho7 hal7 => ?_
      have H7 := H6.grow g7
      repeat walk_at "m"
      refine c_good hK hN hr' hh' hu hal7 H7.s H7.l hp7 ho7 (List.nodup_append.mp N6.nd).2.1 (by omega) fun σ8 g8 => ?_
      have ha8 := g8 _ _ (g7 _ _ ha6)
      have hb8 := g8 _ _ (g7 _ _ hb6)
      repeat walk_at "m"
      refine CmpWP.neSame (d := .list ((near ++ ps.map (·.2)).map PyData.int)) (.list (.inl ha8) (DRs.map fun _ _ => .int _)) (.list (.inl hb8) (DRs.map fun _ _ => .int _)) (by simp only [PyData.canLay0]; exact canLayAll_map fun _ _ => by simp [PyData.canLay0]) (ints_room (by omega) _) ?_
      repeat walk_at "m"
      exact ⟨.inr hl, n6, f6, near', far', k', H7.grow g8, N6, hk6, by walk_at "mget", by walk_at "mget", by walk_at "mget", by walk_at "mget"⟩
  · rintro ρ σ3 -
    repeat walk_at "m"
    rfl

end Mine
theorem PySem.Challenge.cw_uf030038_03_holds : PySem.Challenge.rw_uf030038_03.Holds := by
  refine hd ?_
  intro w s₀ s₁ mg mb G Y fa o pm cd doc dV kV ho hd hcd hD hmg hg args vals as hpre hlay hrd hwl hlo
  have KX := kIn_of Y
  refine Ground.open G ?_
  intro T B D TE TW
  clear ho hd hcd hD
  wrow_args hpre hlay hrd hwl hlo
  rename IntsAre _ _ => hI
  rename s₁.heap.IsList _ _ => hL
  rename ¬ _ < _ => hn
  have hfa : fa = 106 := by
    have e := mg_of (n := Str.ofString "law") (v := .ref 106) KX T.g (by k_is)
    rw [hmg] at e
    cases e; rfl
  subst hfa
  refine wpAny_mono (Mine.glue KX T.g T.b T.builtins T.nolimit hg hL hI ?_) ?_ fun _ _ z => z.elim
  · intro C e1 e2 e3 e4 e5
    subst e2
    exact Mine.c_law e3 e4 e5 (by omega)
  · rintro v s' ⟨rfl, k1, k2, k3⟩
    exact GoodW.toG ⟨.inl ⟨_, .bool true, [], rfl, fun _ => rfl, .bool true, postW_of (X := true == true) (by rfl) (w_eq_bool (w_res rfl) w_lit) rfl, fun _ => ⟨List.nodup_nil, fun a ha => by cases ha⟩⟩, k1, k2, k3⟩

