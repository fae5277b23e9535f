import PyProof.Rows.All
import Wide.All
import OpenK.AllK
import Wide.FinOn
import OpenK.KWalk
import PyProof.Cells
import PyProof.CompFree
import PyProof.CompUse
import PyProof.DictCalls
import PyProof.PlainList
import PyProof.Rules3
import PyProof.ListIndex
import PyProof.Rows.Frame
import PyProof.RangeFor
import PyProof.Rules2
import PyProof.PureInt
import PyProof.NoPylong
import PyProof.Rows.RuleB_floordiv
import PyProof.Rows.RuleB_mod
import PyProof.Rows.StrRules
import PyProof.Rows.Chain
import PyProof.Raises
import PyProof.RulesAssignMore
import PyProof.RulesMatch
import PyProof.TupleIter
import PyProof.LetGo
import PyProof.AssignAttr
import OpenK.KMore
import PyProof.CallRoads
import PyProof.CompMap
import PyProof.Walks
import PyProof.RangeIter
import PyProof.P3In
import PyProof.ListTruth
import PyProof.ListIndexNeg
import PyProof.SliceList
import PyProof.FactsAll.list_3
import PyProof.FactsAll.list_4
import PyProof.Rows.Tup
import PyProof.SeqWrite
import PyProof.ReprLoop
import PyProof.IsiPairs
import PyProof.IsiHeapPairs
import PyProof.IsiNone
import PyProof.ListCopy
import PyProof.TupleOfSeq
import PyProof.TupleCall
import PyProof.StrCalls2
import PyProof.ConsumeWalk
import PyProof.Rows.RuleN_abs
import PyProof.Rows.SeqMore
import PyProof.CallStr
import PyProof.StrBlock2
import PyProof.DictDisplay
import PyProof.DictTruth
import KE.KNestM
import OpenK.KLine
import PyProof.DictTable
import PyProof.MeetsSeq
import KE.LcSums
import PyProof.P3Eq
import PyProof.Rows.TupAssign
import KE.KSortTup
import OpenK.KMake
import PyProof.TupleKey
import PyProof.FactsAll.tuple_1
import PyProof.FactsAll.tuple_2
import PyProof.FactsAll.dict_3
import PyProof.MeetsDictList
import PyProof.MinMaxWalk
import KE.KLam
import KE.KSortKey
import PyProof.DefCall
import PyProof.Rows.CallKw2
import PyProof.SliceStr2
import PyProof.StrBlockI
import PySem.Challenge.RW_uf030038_02
set_option autoImplicit false
namespace Mine
open PySem PySem.W

/-- abstract values -/
inductive V where
  | none | bool (b : Bool) | int (i : Int) | str (s : Str) | tup (vs : List V) | rng (a b : Int) | ref (a : Addr) | typ (n : String) | blt (i : String)
  deriving Inhabited

abbrev tupObj (items : Array Value) (n : Nat) : Obj := { cls := .type "tuple", data := .seq items n }

mutual
inductive VR (h : Heap) : Value → V → Prop where
  | none : VR h .none .none
  | bool (b : Bool) : VR h (.bool b) (.bool b)
  | int (i : Int) (t : Tok) : VR h (.int i t) (.int i)
  | str (s : Str) (t : Tok) : VR h (.str s t) (.str s)
  | typ (n : String) : VR h (.type n) (.typ n)
  | blt (i : String) : VR h (.builtin i) (.blt i)
  | ref (a : Addr) : VR h (.ref a) (.ref a)
  | tup {a : Addr} {items : Array Value} {n : Nat} {vs : List V} : h.get? a = some (tupObj items n) → VRs h items.toList vs → VR h (.ref a) (.tup vs)
  | rng {r : Addr} {a b : Int} {t u v : Tok} : IsRange h r a b 1 t u v → VR h (.ref r) (.rng a b)
inductive VRs (h : Heap) : List Value → List V → Prop where
  | nil : VRs h [] []
  | cons {v : Value} {vs : List Value} {x : V} {xs : List V} : VR h v x → VRs h vs xs → VRs h (v :: vs) (x :: xs)
end

/-- objects that nothing changes -/
def Imm (o : Obj) : Prop := (∃ items n, o = tupObj items n) ∨ (∃ vs, o = { cls := .type "range", data := .fields vs }) ∨ (o.cls = .type "code" ∧ ∃ vs, o.data = .fields vs)
theorem Imm.tup (items : Array Value) (n : Nat) : Imm (tupObj items n) := .inl ⟨_, _, rfl⟩
theorem Imm.not {o : Obj} (h1 : o.cls ≠ .type "tuple") (h2 : o.cls ≠ .type "range") (h3 : o.cls ≠ .type "code") : ¬ Imm o := by
  rintro (⟨_, _, rfl⟩ | ⟨_, rfl⟩ | ⟨e, _⟩)
  · exact h1 rfl
  · exact h2 rfl
  · exact h3 e
theorem Imm.notDict {o : Obj} {es : Array DictEntry} {n : Nat} (h : o.data = .dict es n) : ¬ Imm o := by
  rintro (⟨_, _, rfl⟩ | ⟨_, rfl⟩ | ⟨_, _, e⟩)
  · cases h
  · cases h
  · rw [h] at e; cases e
theorem Imm.notCell {o : Obj} {v : Option Value} (h : o.data = .cell v) : ¬ Imm o := by
  rintro (⟨_, _, rfl⟩ | ⟨_, rfl⟩ | ⟨_, _, e⟩)
  · cases h
  · cases h
  · rw [h] at e; cases e
/-- every such object of h stands in h' -/
def TupKeep (h h' : Heap) : Prop := ∀ a o, Imm o → h.get? a = some o → h'.get? a = some o

theorem TupKeep.refl (h : Heap) : TupKeep h h := fun _ _ _ e => e
theorem TupKeep.trans {h1 h2 h3 : Heap} (x : TupKeep h1 h2) (y : TupKeep h2 h3) : TupKeep h1 h3 := fun a i n e => y a i n (x a i n e)

mutual
theorem VR.mono {h h' : Heap} (k : TupKeep h h') : ∀ {v : Value} {x : V}, VR h v x → VR h' v x
  | _, _, .none => .none
  | _, _, .bool b => .bool b
  | _, _, .int i t => .int i t
  | _, _, .str s t => .str s t
  | _, _, .typ n => .typ n
  | _, _, .blt i => .blt i
  | _, _, .ref a => .ref a
  | _, _, .tup e r => .tup (k _ _ (.tup _ _) e) (VRs.mono k r)
  | _, _, .rng e => .rng (k _ _ (.inr (.inl ⟨_, rfl⟩)) e)
theorem VRs.mono {h h' : Heap} (k : TupKeep h h') : ∀ {v : List Value} {x : List V}, VRs h v x → VRs h' v x
  | _, _, .nil => .nil
  | _, _, .cons a b => .cons (VR.mono k a) (VRs.mono k b)
end

theorem VRs.length {h : Heap} : ∀ {v : List Value} {x : List V}, VRs h v x → v.length = x.length
  | _, _, .nil => rfl
  | _, _, .cons _ b => congrArg (· + 1) (VRs.length b)

theorem VRs.append {h : Heap} : ∀ {v : List Value} {x : List V} {v' : List Value} {x' : List V}, VRs h v x → VRs h v' x' → VRs h (v ++ v') (x ++ x')
  | _, _, _, _, .nil, r => r
  | _, _, _, _, .cons a b, r => .cons a (VRs.append b r)

theorem VRs.get {h : Heap} : ∀ {v : List Value} {x : List V}, VRs h v x → ∀ {i : Nat} {y : V}, x[i]? = some y → ∃ u, v[i]? = some u ∧ VR h u y
  | _, _, .nil, _, _, e => by simp at e
  | _, _, .cons a b, 0, _, e => by simp at e; subst e; exact ⟨_, rfl, a⟩
  | _, _, .cons a b, i + 1, _, e => by
    obtain ⟨u, h1, h2⟩ := VRs.get b (i := i) (by simpa using e)
    exact ⟨u, by simpa using h1, h2⟩

theorem VRs.get' {h : Heap} : ∀ {v : List Value} {x : List V}, VRs h v x → ∀ {i : Nat} {u : Value}, v[i]? = some u → ∃ y, x[i]? = some y ∧ VR h u y
  | _, _, .nil, _, _, e => by simp at e
  | _, _, .cons a b, 0, _, e => by simp at e; subst e; exact ⟨_, rfl, a⟩
  | _, _, .cons a b, i + 1, _, e => by
    obtain ⟨u, h1, h2⟩ := VRs.get' b (i := i) (by simpa using e)
    exact ⟨u, by simpa using h1, h2⟩

/-- the run's surroundings -/
structure Cx where
  prog : Program
  w : World
  h₀ : Heap
  gens : Array GenState
  os : OsState
  n₀ : Nat
  low : ∀ b o, h₀.get? b = some o → b < n₀
  top : ∀ m, n₀ = m + 1 → ∃ o, h₀.get? m = some o
  K : Frag
  KX : K.In h₀
  mg : Str → Option Value
  mb : Str → Option Value
  hg : h₀.Ns mainGlobals mg
  hb : h₀.Ns builtinsNs mb
  blt : ∀ x : Str, x ≠ "__name__" → mb x = bootBuiltins x
  lim : h₀.NoLimit
  tabs : List Addr
abbrev Cx.M (C : Cx) : Model := model C.prog C.w

/-- abstract objects -/
inductive O where
  | list (vs : List V)
  | sd (es : List (Str × V))
  | id (es : List (Int × V))
  | inst (cls dx : Addr)
  | tab (pos : Pos) (q : Str)

abbrev Store := Addr → Option O
def Store.upd (σ : Store) (a : Addr) (o : O) : Store := fun b => if b = a then some o else σ b
theorem Store.upd_self (σ : Store) (a : Addr) (o : O) : σ.upd a o a = some o := by simp [Store.upd]
theorem Store.upd_ne (σ : Store) {a b : Addr} (o : O) (h : b ≠ a) : σ.upd a o b = σ b := by simp [Store.upd, h]

inductive PR {K : Type} (h : Heap) : List (K × Value) → List (K × V) → Prop
  | nil : PR h [] []
  | cons {k : K} {v : Value} {x : V} {r : List (K × Value)} {r' : List (K × V)} : VR h v x → PR h r r' → PR h ((k, v) :: r) ((k, x) :: r')

theorem PR.mono {K : Type} {h h' : Heap} (k : TupKeep h h') : ∀ {a : List (K × Value)} {b : List (K × V)}, PR h a b → PR h' a b
  | _, _, .nil => .nil
  | _, _, .cons x y => .cons (x.mono k) (PR.mono k y)

abbrev instO (C dx : Addr) : Obj := { cls := .ref C, dict := some dx }

def Rep (C : Cx) (h : Heap) (a : Addr) : O → Prop
  | .list vs => ∃ items, h.PlainList a items ∧ VRs h items.toList vs
  | .sd es => ∃ kvs, h.DictOf (strKind C.prog C.w) a kvs ∧ PR h kvs es
  | .id es => ∃ kvs, h.DictOf (intKind C.prog C.w) a kvs ∧ PR h kvs es
  | .inst c dx => h.get? a = some (instO c dx)
  | .tab pos q => h.get? a = some { cls := .none, data := .fields #[] } ∨ ∃ c' o vs t, h.get? a = some { cls := .none, data := .fields #[rawInt pos.line, rawInt pos.col, .ref c'] } ∧ h.get? c' = some o ∧ o.cls = .type "code" ∧ o.data = .fields vs ∧ vs[1]? = some (.str q t)

theorem Rep.isSome {C : Cx} {h : Heap} {a : Addr} {o : O} (r : Rep C h a o) : ∃ x, h.get? a = some x ∧ ¬ Imm x := by
  cases o with
  | list vs => obtain ⟨items, ⟨n, e⟩, _⟩ := r; exact ⟨_, e, Imm.not (by simp) (by simp) (by simp)⟩
  | sd es =>
    obtain ⟨kvs, d, _⟩ := r
    obtain ⟨o, es, ep, ho, hx, _⟩ := d
    exact ⟨o, ho, Imm.not (by rw [hx.1]; decide) (by rw [hx.1]; decide) (by rw [hx.1]; decide)⟩
  | id es =>
    obtain ⟨kvs, d, _⟩ := r
    obtain ⟨o, es, ep, ho, hx, _⟩ := d
    exact ⟨o, ho, Imm.not (by rw [hx.1]; decide) (by rw [hx.1]; decide) (by rw [hx.1]; decide)⟩
  | inst c dx => exact ⟨_, r, Imm.not (fun z => by cases z) (fun z => by cases z) (fun z => by cases z)⟩
  | tab pos q =>
    rcases r with e | ⟨c', o, vs, t, e, _⟩
    · exact ⟨_, e, Imm.not (fun z => by cases z) (fun z => by cases z) (fun z => by cases z)⟩
    · exact ⟨_, e, Imm.not (fun z => by cases z) (fun z => by cases z) (fun z => by cases z)⟩

/-- a represented object stands as it stood where it is kept itself and all tuples are -/
theorem Rep.at {C : Cx} {h h' : Heap} {a : Addr} {o : O} (r : Rep C h a o) (k : ∀ x, h.get? a = some x → h'.get? a = some x) (t : TupKeep h h') : Rep C h' a o := by
  cases o with
  | list vs => obtain ⟨items, p, q⟩ := r; exact ⟨items, p.at k, q.mono t⟩
  | sd es =>
    obtain ⟨kvs, d, q⟩ := r
    obtain ⟨o, es', ep, ho, rest⟩ := d
    exact ⟨kvs, ⟨o, es', ep, k _ ho, rest⟩, q.mono t⟩
  | id es =>
    obtain ⟨kvs, d, q⟩ := r
    obtain ⟨o, es', ep, ho, rest⟩ := d
    exact ⟨kvs, ⟨o, es', ep, k _ ho, rest⟩, q.mono t⟩
  | inst c dx => exact k _ r
  | tab pos q =>
    rcases r with e | ⟨c', o, vs, u, e, e2, h1, h2, h3⟩
    · exact .inl (k _ e)
    · exact .inr ⟨c', o, vs, u, k _ e, t _ _ (.inr (.inr ⟨h1, vs, h2⟩)) e2, h1, h2, h3⟩

structure St (C : Cx) (σ : Store) (s : Shared) : Prop where
  base : ∀ b o, C.h₀.get? b = some o → s.heap.get? b = some o
  rep : ∀ a o, σ a = some o → Rep C s.heap a o
  above : ∀ a o, σ a = some o → C.h₀.get? a = none ∧ (C.n₀ ≤ a ∨ a ∈ C.tabs)
  gens : s.gens = C.gens
  os : s.os = C.os

theorem St.size {C : Cx} {σ : Store} {s : Shared} (S : St C σ s) : C.n₀ ≤ s.heap.objs.size := by
  cases q : C.n₀ with
  | zero => exact Nat.zero_le _
  | succ m =>
    obtain ⟨o, e⟩ := C.top m q
    exact Heap.lt_size (S.base m o e)

structure Evo (σ : Store) (h : Heap) (σ' : Store) (h' : Heap) : Prop where
  keep : ∀ b o, h.get? b = some o → σ b = none → h'.get? b = some o
  dom : ∀ b o, σ' b = some o → (∃ o', σ b = some o') ∨ h.get? b = none
  mono : ∀ b o, σ b = some o → ∃ o', σ' b = some o'
  tup : TupKeep h h'

theorem Evo.refl (σ : Store) (h : Heap) : Evo σ h σ h := ⟨fun _ _ e _ => e, fun _ _ e => .inl ⟨_, e⟩, fun _ _ e => ⟨_, e⟩, .refl _⟩
theorem Evo.trans {σ1 σ2 σ3 : Store} {h1 h2 h3 : Heap} (x : Evo σ1 h1 σ2 h2) (y : Evo σ2 h2 σ3 h3) : Evo σ1 h1 σ3 h3 := by
  refine ⟨fun b o e n => ?_, fun b o e => ?_, fun b o e => ?_, x.tup.trans y.tup⟩
  · refine y.keep b o (x.keep b o e n) ?_
    cases q : σ2 b with
    | none => rfl
    | some o2 =>
      rcases x.dom b o2 q with ⟨o', e'⟩ | e'
      · rw [n] at e'; cases e'
      · rw [e] at e'; cases e'
  · rcases y.dom b o e with ⟨o', e'⟩ | e'
    · exact x.dom b o' e'
    · cases q : h1.get? b with
      | none => exact .inr rfl
      | some o1 =>
        left
        cases q' : σ1 b with
        | some o' => exact ⟨o', rfl⟩
        | none => rw [x.keep b o1 q q'] at e'; cases e'
  · obtain ⟨o', e'⟩ := x.mono b o e
    exact y.mono b o' e'

/-- raw raised values and states -/
abbrev XP := Value → Shared → Prop

/-- what a tree of values gives -/
def EP (C : Cx) (σ : Store) (h : Heap) (Q : V → Store → Prop) (v : Value) (s' : Shared) : Prop :=
  ∃ x σ', Q x σ' ∧ VR s'.heap v x ∧ St C σ' s' ∧ Evo σ h σ' s'.heap

theorem EP.after {C : Cx} {σ σ1 : Store} {h h1 : Heap} {Q : V → Store → Prop} {v : Value} {s' : Shared} (x : EP C σ1 h1 Q v s') (k : Evo σ h σ1 h1) : EP C σ h Q v s' :=
  let ⟨a, b, c, d, e, f⟩ := x; ⟨a, b, c, d, e, k.trans f⟩

/-- names to values -/
abbrev Rho := List (Str × V)
def Rho.get : Rho → Str → Option V
  | [], _ => none
  | (y, v) :: r, x => if x = y then some v else Rho.get r x
def Rho.put : Rho → Str → V → Rho
  | [], x, v => [(x, v)]
  | (y, u) :: r, x, v => if x = y then (x, v) :: r else (y, u) :: Rho.put r x v
theorem Rho.get_hit {x : Str} {v : V} {r : Rho} : Rho.get ((x, v) :: r) x = some v := by simp [Rho.get]
theorem Rho.get_miss {x y : Str} {u : V} {v : Option V} {r : Rho} (h : x ≠ y) (k : Rho.get r x = v) : Rho.get ((y, u) :: r) x = v := by simp [Rho.get, h, k]
theorem Rho.put_nil {x : Str} {v : V} : Rho.put [] x v = [(x, v)] := rfl
theorem Rho.put_hit {x : Str} {u v : V} {r : Rho} : Rho.put ((x, u) :: r) x v = (x, v) :: r := by simp [Rho.put]
theorem Rho.put_miss {x y : Str} {u v : V} {r r' : Rho} (h : x ≠ y) (k : Rho.put r x v = r') : Rho.put ((y, u) :: r) x v = (y, u) :: r' := by simp [Rho.put, h, k]
theorem Rho.get_put (x : Str) (v : V) : ∀ (r : Rho) (y : Str), Rho.get (Rho.put r x v) y = if y = x then some v else Rho.get r y
  | [], y => by simp [Rho.put, Rho.get]
  | (z, u) :: r, y => by
    have ih := Rho.get_put x v r y
    by_cases h : x = z
    · subst h
      simp only [Rho.put, if_true, Rho.get]
      by_cases h2 : y = x <;> simp [h2]
    · simp only [Rho.put, h, if_false, Rho.get]
      by_cases h2 : y = z
      · subst h2; simp [Ne.symm h]
      · simp [h2, ih]

/-- the frame -/
structure Fm (C : Cx) (σ : Store) (h : Heap) (env : Env) (ρ : Rho) : Prop where
  fn : env.scope.kind = .function
  loc : ∃ m, h.Ns env.locals m ∧ ∀ x v, env.kindOf x = some .local → ρ.get x = some v → ∃ u, m x = some u ∧ VR h u v
  locs : σ env.locals = none
  abv : C.n₀ ≤ env.locals
  cell : ∀ x c, env.cells.lookup x = some c → ∃ ov, h.IsCell c ov ∧ (∀ v, ρ.get x = some v → ∃ u, ov = some u ∧ VR h u v) 
  ncell : ∀ x c, env.cells.lookup x = some c → σ c = none ∧ c ≠ env.locals ∧ C.n₀ ≤ c
  apart : ∀ x y c, env.cells.lookup x = some c → env.cells.lookup y = some c → x = y

theorem isCell_at {h h' : Heap} {c : Addr} {v : Option Value} (x : h.IsCell c v) (k : ∀ o, h.get? c = some o → h'.get? c = some o) : h'.IsCell c v := by
  unfold Heap.IsCell at *
  obtain ⟨o, e, r⟩ := x
  exact ⟨o, k _ e, r⟩

theorem Fm.evo {C : Cx} {σ σ' : Store} {h h' : Heap} {env : Env} {ρ : Rho} (F : Fm C σ h env ρ) (k : Evo σ h σ' h') : Fm C σ' h' env ρ := by
  obtain ⟨f1, ⟨m, hm, f2⟩, f3, f5, f6, f7, f8⟩ := F
  obtain ⟨o, es, ep, ho, rest⟩ := hm
  have ho' := k.keep _ _ ho f3
  have nd : ∀ b o, h.get? b = some o → σ b = none → σ' b = none := fun b o e n => by
    cases q : σ' b with
    | none => rfl
    | some o2 =>
      rcases k.dom b o2 q with ⟨o', e'⟩ | e'
      · rw [n] at e'; cases e'
      · rw [e] at e'; cases e'
  refine ⟨f1, ⟨m, ⟨o, es, ep, ho', rest⟩, fun x v hx hv => ?_⟩, nd _ _ ho f3, f5, fun x c hc => ?_, fun x c hc => ?_, f8⟩
  · obtain ⟨u, a, b⟩ := f2 x v hx hv
    exact ⟨u, a, b.mono k.tup⟩
  · obtain ⟨ov, a, b⟩ := f6 x c hc
    obtain ⟨n1, _, _⟩ := f7 x c hc
    refine ⟨ov, isCell_at a fun o e => k.keep _ _ e n1, fun v hv => ?_⟩
    obtain ⟨u, p, q⟩ := b v hv
    exact ⟨u, p, q.mono k.tup⟩
  · obtain ⟨n1, n2, n3⟩ := f7 x c hc
    obtain ⟨ov, a, b⟩ := f6 x c hc
    have a' := a
    unfold Heap.IsCell at a'
    obtain ⟨o, e, _⟩ := a'
    exact ⟨nd _ _ e n1, n2, n3⟩

/-- an expression's evaluation -/
def Ev (C : Cx) (A : Around) (env : Env) (e : Expr) (ρ : Rho) (σ : Store) (Q : V → Store → Prop) (X : XP) : Prop :=
  ∀ s, St C σ s → Fm C σ s.heap env ρ → wpAny C.M A (eval e env) (EP C σ s.heap Q) X s

/-- a test -/
def Tst (C : Cx) (A : Around) (env : Env) (e : Expr) (ρ : Rho) (σ : Store) (Q : Bool → Store → Prop) (X : XP) : Prop :=
  ∀ s, St C σ s → Fm C σ s.heap env ρ → wpAny C.M A (isTrue e env (eval e env)) (fun b s' => ∃ σ', Q b σ' ∧ St C σ' s' ∧ Evo σ s.heap σ' s'.heap) X s

def BinWP (C : Cx) (A : Around) (op : Operator) (x y : V) (σ : Store) (Q : V → Store → Prop) (X : XP) : Prop :=
  ∀ s a b, St C σ s → VR s.heap a x → VR s.heap b y → wpAny C.M A (binaryOp op a b) (EP C σ s.heap Q) X s
def CmpWP (C : Cx) (A : Around) (op : CmpOp) (x y : V) (σ : Store) (Q : V → Store → Prop) (X : XP) : Prop :=
  ∀ s a b, St C σ s → VR s.heap a x → VR s.heap b y → wpAny C.M A (compareOp op a b) (EP C σ s.heap Q) X s
def UnWP (C : Cx) (A : Around) (op : UnaryOp) (x : V) (σ : Store) (Q : V → Store → Prop) (X : XP) : Prop :=
  ∀ s a, St C σ s → VR s.heap a x → wpAny C.M A (unaryOp op a) (EP C σ s.heap Q) X s
def TruWP (C : Cx) (A : Around) (x : V) (σ : Store) (Q : Bool → Store → Prop) (X : XP) : Prop :=
  ∀ s a, St C σ s → VR s.heap a x → wpAny C.M A (truthy a) (fun b s' => ∃ σ', Q b σ' ∧ St C σ' s' ∧ Evo σ s.heap σ' s'.heap) X s

section
variable {C : Cx} {A : Around} {env : Env} {ρ : Rho} {σ : Store} {X : XP}

theorem Ev.bin {l r : Expr} {op : Operator} {pos : Pos} {Q : V → Store → Prop}
    (h : Ev C A env l ρ σ (fun x σ1 => Ev C A env r ρ σ1 (fun y σ2 => BinWP C A op x y σ2 Q X) X) X) : Ev C A env (.BinOp l op r pos) ρ σ Q X := by
  intro s S F
  refine wpAny_BinOp (wpAny_mono (h s S F) ?_ fun _ _ z => z)
  rintro a s1 ⟨x, σ1, h1, r1, S1, e1⟩
  refine wpAny_mono (h1 s1 S1 (F.evo e1)) ?_ fun _ _ z => z
  rintro b s2 ⟨y, σ2, h2, r2, S2, e2⟩
  exact wpAny_mono (h2 s2 a b S2 (r1.mono e2.tup) r2) (fun _ _ z => (z.after e2).after e1) fun _ _ z => z
end

end Mine

set_option autoImplicit false
set_option linter.unusedVariables false
namespace Mine
open PySem PySem.W

theorem St.toks {C : Cx} {σ : Store} {s : Shared} (x : St C σ s) (t : Nat) : St C σ { s with toks := t } := ⟨x.base, x.rep, x.above, x.gens, x.os⟩

section
variable {C : Cx} {A : Around} {env : Env} {ρ : Rho} {σ : Store} {X : XP}

theorem EP.pure {s : Shared} {Q : V → Store → Prop} {v : Value} {x : V} (S : St C σ s) (q : Q x σ) (r : VR s.heap v x) : EP C σ s.heap Q v s :=
  ⟨x, σ, q, r, S, .refl ..⟩
theorem EP.pureT {s : Shared} {Q : V → Store → Prop} {v : Value} {x : V} {t : Nat} (S : St C σ s) (q : Q x σ) (r : VR s.heap v x) : EP C σ s.heap Q v { s with toks := t } :=
  ⟨x, σ, q, r, S.toks t, .refl ..⟩

/- constants -/
theorem Ev.cint {i : Int} {k : Nat} {pos : Pos} {Q : V → Store → Prop} (h : Q (.int i) σ) : Ev C A env (.Constant (.int i) k pos) ρ σ Q X :=
  fun _ S _ => wpAny_Constant_int (EP.pureT S h (.int _ _))
theorem Ev.cstr {i : Str} {k : Nat} {pos : Pos} {Q : V → Store → Prop} (h : Q (.str i) σ) : Ev C A env (.Constant (.str i) k pos) ρ σ Q X :=
  fun _ S _ => wpAny_Constant_str (EP.pureT S h (.str _ _))
theorem Ev.cbool {i : Bool} {k : Nat} {pos : Pos} {Q : V → Store → Prop} (h : Q (.bool i) σ) : Ev C A env (.Constant (.bool i) k pos) ρ σ Q X :=
  fun _ S _ => wpAny_Constant_bool (EP.pure S h (.bool _))
theorem Ev.cnone {k : Nat} {pos : Pos} {Q : V → Store → Prop} (h : Q .none σ) : Ev C A env (.Constant .none k pos) ρ σ Q X :=
  fun _ S _ => wpAny_Constant_none (EP.pure S h .none)

/- names -/
theorem Ev.loc {x : Str} {pos : Pos} {v : V} {Q : V → Store → Prop} (hk : env.kindOf x = some .local) (hv : ρ.get x = some v) (h : Q v σ)
    (hd : (x == ("__debug__" : Str)) = false) : Ev C A env (.Name x pos) ρ σ Q X := by
  intro s S F
  obtain ⟨m, hm, f⟩ := F.loc
  obtain ⟨u, hu, r⟩ := f x v hk hv
  exact wpAny_Name (wpAny_loadName_local F.fn hk hm hu (EP.pure S h r)) hd
theorem Ev.cel {x : Str} {pos : Pos} {v : V} {c : Addr} {Q : V → Store → Prop} (hk : env.kindOf x = some .cell) (hc : env.cells.lookup x = some c) (hv : ρ.get x = some v) (h : Q v σ)
    (hd : (x == ("__debug__" : Str)) = false) : Ev C A env (.Name x pos) ρ σ Q X := by
  intro s S F
  obtain ⟨ov, a, b⟩ := F.cell x c hc
  obtain ⟨u, rfl, r⟩ := b v hv
  exact wpAny_Name (wpAny_loadName_cell F.fn hk hc a (EP.pure S h r)) hd
theorem Ev.free {x : Str} {pos : Pos} {v : V} {c : Addr} {Q : V → Store → Prop} (hk : env.kindOf x = some .free) (hc : env.cells.lookup x = some c) (hv : ρ.get x = some v) (h : Q v σ)
    (hd : (x == ("__debug__" : Str)) = false) (hn : (x == ("__classdict__" : Str)) = false) : Ev C A env (.Name x pos) ρ σ Q X := by
  intro s S F
  obtain ⟨ov, a, b⟩ := F.cell x c hc
  obtain ⟨u, rfl, r⟩ := b v hv
  exact wpAny_Name (wpAny_loadName_free F.fn hk hc a (EP.pure S h r) hn) hd

/- compare -/
theorem Ev.cmp {l r : Expr} {op : CmpOp} {pos : Pos} {Q : V → Store → Prop}
    (h : Ev C A env l ρ σ (fun x σ1 => Ev C A env r ρ σ1 (fun y σ2 => CmpWP C A op x y σ2 Q X) X) X) (hm : behindInMarks op r = false := by kernel_rfl) : Ev C A env (.Compare l [op] [r] pos) ρ σ Q X := by
  intro s S F
  refine wpAny_Compare1 (wpAny_mono (h s S F) ?_ fun _ _ z => z) hm
  rintro a s1 ⟨x, σ1, h1, r1, S1, e1⟩
  refine wpAny_mono (h1 s1 S1 (F.evo e1)) ?_ fun _ _ z => z
  rintro b s2 ⟨y, σ2, h2, r2, S2, e2⟩
  exact wpAny_mono (h2 s2 a b S2 (r1.mono e2.tup) r2) (fun _ _ z => (z.after e2).after e1) fun _ _ z => z

/-- a test's end -/
def TP (C : Cx) (σ : Store) (h : Heap) (Q : Bool → Store → Prop) (b : Bool) (s' : Shared) : Prop := ∃ σ', Q b σ' ∧ St C σ' s' ∧ Evo σ h σ' s'.heap
theorem TP.after {σ1 : Store} {h h1 : Heap} {Q : Bool → Store → Prop} {v : Bool} {s' : Shared} (x : TP C σ1 h1 Q v s') (k : Evo σ h σ1 h1) : TP C σ h Q v s' :=
  let ⟨a, b, c, d⟩ := x; ⟨a, b, c, k.trans d⟩
theorem TP.pure {s : Shared} {Q : Bool → Store → Prop} {v : Bool} (S : St C σ s) (q : Q v σ) : TP C σ s.heap Q v s := ⟨σ, q, S, .refl ..⟩

theorem Tst.mono {e : Expr} {Q Q' : Bool → Store → Prop} (h : Tst C A env e ρ σ Q X) (k : ∀ x σ', Q x σ' → Q' x σ') : Tst C A env e ρ σ Q' X :=
  fun s S F => wpAny_mono (h s S F) (fun _ _ ⟨a, b, c⟩ => ⟨a, k _ _ b, c⟩) fun _ _ z => z

theorem Tst.cmp {l r : Expr} {op : CmpOp} {pos : Pos} {Q : Bool → Store → Prop}
    (h : Ev C A env l ρ σ (fun x σ1 => Ev C A env r ρ σ1 (fun y σ2 => CmpWP C A op x y σ2 (fun c σ3 => TruWP C A c σ3 Q X) X) X) X) (hm : behindInMarks op r = false := by kernel_rfl) :
    Tst C A env (.Compare l [op] [r] pos) ρ σ Q X := by
  intro s S F
  refine wpAny_isTrue_Compare1 (wpAny_mono (h s S F) ?_ fun _ _ z => z) hm
  rintro a s1 ⟨x, σ1, h1, r1, S1, e1⟩
  refine wpAny_mono (h1 s1 S1 (F.evo e1)) ?_ fun _ _ z => z
  rintro b s2 ⟨y, σ2, h2, r2, S2, e2⟩
  refine wpAny_mono (h2 s2 a b S2 (r1.mono e2.tup) r2) ?_ fun _ _ z => z
  rintro c s3 ⟨z, σ3, h3, r3, S3, e3⟩
  exact wpAny_mono (h3 s3 c S3 r3) (fun _ _ z => TP.after z ((e1.trans e2).trans e3)) fun _ _ z => z

theorem Tst.not {e : Expr} {pos : Pos} {Q : Bool → Store → Prop} (h : Tst C A env e ρ σ (fun b σ' => Q (!b) σ') X) : Tst C A env (.UnaryOp .Not e pos) ρ σ Q X :=
  fun s S F => wpAny_isTrue_Not (h s S F)

/-- a test by its value -/
theorem Tst.val {e : Expr} {Q : Bool → Store → Prop} (h : Ev C A env e ρ σ (fun x σ1 => TruWP C A x σ1 Q X) X)
    (he : isTrue e env (eval e env) = (do let v ← eval e env; standAt e.pos; holding [v] (truthy v)) := by kernel_rfl) : Tst C A env e ρ σ Q X := by
  intro s S F
  refine wpAny_isTrue_value (wpAny_mono (h s S F) ?_ fun _ _ z => z) he
  rintro c s3 ⟨z, σ3, h3, r3, S3, e3⟩
  exact wpAny_mono (h3 s3 c S3 r3) (fun _ _ z => TP.after z e3) fun _ _ z => z

def AllT (C : Cx) (A : Around) (env : Env) (op : BoolOp) (es : List Expr) (ρ : Rho) (σ : Store) (Q : Bool → Store → Prop) (X : XP) : Prop :=
  ∀ s, St C σ s → Fm C σ s.heap env ρ → wpAny C.M A (allTrue op es env) (TP C σ s.heap Q) X s
theorem Tst.boolop {op : BoolOp} {es : List Expr} {pos : Pos} {Q : Bool → Store → Prop} (h : AllT C A env op es ρ σ Q X) : Tst C A env (.BoolOp op es pos) ρ σ Q X :=
  fun s S F => wpAny_isTrue_BoolOp (h s S F)
theorem AllT.and_nil {Q : Bool → Store → Prop} (h : Q true σ) : AllT C A env .And [] ρ σ Q X := fun s S _ => wpAny_allTrue_And_nil (TP.pure S h)
theorem AllT.or_nil {Q : Bool → Store → Prop} (h : Q false σ) : AllT C A env .Or [] ρ σ Q X := fun s S _ => wpAny_allTrue_Or_nil (TP.pure S h)
theorem AllT.and_cons {e : Expr} {es : List Expr} {Q : Bool → Store → Prop} (h : Tst C A env e ρ σ (fun b σ1 => if b then AllT C A env .And es ρ σ1 Q X else Q false σ1) X) : AllT C A env .And (e :: es) ρ σ Q X := by
  intro s S F
  refine wpAny_allTrue_And_cons (wpAny_mono (h s S F) ?_ fun _ _ z => z)
  rintro b s1 ⟨σ1, h1, S1, e1⟩
  cases b with
  | true => exact wpAny_mono (h1 s1 S1 (F.evo e1)) (fun _ _ z => TP.after z e1) fun _ _ z => z
  | false => exact ⟨σ1, h1, S1, e1⟩
theorem AllT.or_cons {e : Expr} {es : List Expr} {Q : Bool → Store → Prop} (h : Tst C A env e ρ σ (fun b σ1 => if b then Q true σ1 else AllT C A env .Or es ρ σ1 Q X) X) : AllT C A env .Or (e :: es) ρ σ Q X := by
  intro s S F
  refine wpAny_allTrue_Or_cons (wpAny_mono (h s S F) ?_ fun _ _ z => z)
  rintro b s1 ⟨σ1, h1, S1, e1⟩
  cases b with
  | false => exact wpAny_mono (h1 s1 S1 (F.evo e1)) (fun _ _ z => TP.after z e1) fun _ _ z => z
  | true => exact ⟨σ1, h1, S1, e1⟩

/- and, or as values -/
def BoolE (C : Cx) (A : Around) (env : Env) (pos : Pos) (op : BoolOp) (es : List Expr) (ρ : Rho) (σ : Store) (Q : V → Store → Prop) (X : XP) : Prop :=
  ∀ s, St C σ s → Fm C σ s.heap env ρ → wpAny C.M A (boolOp pos op (evalEach es env)) (EP C σ s.heap Q) X s
theorem Ev.boolop {op : BoolOp} {es : List Expr} {pos : Pos} {Q : V → Store → Prop} (h : BoolE C A env pos op es ρ σ Q X) : Ev C A env (.BoolOp op es pos) ρ σ Q X :=
  fun s S F => h s S F
theorem BoolE.one {op : BoolOp} {e : Expr} {pos : Pos} {Q : V → Store → Prop} (h : Ev C A env e ρ σ Q X) : BoolE C A env pos op [e] ρ σ Q X :=
  fun s S F => h s S F
theorem BoolE.and {e e' : Expr} {es : List Expr} {pos : Pos} {Q : V → Store → Prop}
    (h : Ev C A env e ρ σ (fun x σ1 => TruWP C A x σ1 (fun b σ2 => if b then BoolE C A env pos .And (e' :: es) ρ σ2 Q X else Q x σ2) X) X) : BoolE C A env pos .And (e :: e' :: es) ρ σ Q X := by
  intro s S F
  show wpAny C.M A (do
    let v ← eval e env
    standAt pos
    let t ← holding [v] (truthy v)
    match BoolOp.And, t with
    | .And, false | .Or, true => pure v
    | _, _ => boolOp pos .And (evalEach (e' :: es) env)) _ _ s
  refine wpAny_bind (wpAny_mono (h s S F) ?_ fun _ _ z => z)
  rintro v s1 ⟨x, σ1, h1, r1, S1, e1⟩
  refine wpAny_bind (wpAny_standAt (wpAny_bind (wpAny_holding (wpAny_mono (h1 s1 v S1 r1) ?_ fun _ _ z => z))))
  rintro t s2 ⟨σ2, h2, S2, e2⟩
  cases t with
  | true => exact wpAny_mono (h2 s2 S2 ((F.evo e1).evo e2)) (fun _ _ z => (z.after e2).after e1) fun _ _ z => z
  | false => exact wpAny_pure ⟨x, σ2, h2, r1.mono e2.tup, S2, e1.trans e2⟩
/- chains of two -/
/- ints -/
theorem BinWP.add_int {a b : Int} {Q : V → Store → Prop} (h : Q (.int (a + b)) σ) : BinWP C A .Add (.int a) (.int b) σ Q X := by
  rintro s _ _ S ⟨⟩ ⟨⟩; exact PySem.P.add_int (EP.pureT S h (.int _ _))
theorem BinWP.sub_int {a b : Int} {Q : V → Store → Prop} (h : Q (.int (a - b)) σ) : BinWP C A .Sub (.int a) (.int b) σ Q X := by
  rintro s _ _ S ⟨⟩ ⟨⟩; exact PySem.P.sub_int (EP.pureT S h (.int _ _))
theorem BinWP.mul_int {a b : Int} {Q : V → Store → Prop} (h : Q (.int (a * b)) σ) (hm : IntMulOk a b) : BinWP C A .Mult (.int a) (.int b) σ Q X := by
  rintro s _ _ S ⟨⟩ ⟨⟩; exact PySem.P.mul_int (EP.pureT S h (.int _ _)) hm
theorem BinWP.fdiv_int {a b : Int} {Q : V → Store → Prop} (hb : b ≠ 0) (hs : b.natAbs < 1073741824) (h : Q (.int (a.fdiv b)) σ) : BinWP C A .FloorDiv (.int a) (.int b) σ Q X := by
  rintro s _ _ S ⟨⟩ ⟨⟩; exact PyProof.Rows.floordiv_int hb (EP.pureT S h (.int _ _)) (.inl (PyProof.noPylong_small hs))
theorem BinWP.fmod_int {a b : Int} {Q : V → Store → Prop} (hb : b ≠ 0) (h : Q (.int (a.fmod b)) σ) : BinWP C A .Mod (.int a) (.int b) σ Q X := by
  rintro s _ _ S ⟨⟩ ⟨⟩; exact PyProof.Rows.mod_int' hb (EP.pureT S h (.int _ _))
theorem CmpWP.lt_int {a b : Int} {Q : V → Store → Prop} (h : Q (.bool (decide (a < b))) σ) : CmpWP C A .Lt (.int a) (.int b) σ Q X := by
  rintro s _ _ S ⟨⟩ ⟨⟩; exact PySem.P.lt_int (EP.pure S h (.bool _))
theorem CmpWP.gt_int {a b : Int} {Q : V → Store → Prop} (h : Q (.bool (decide (b < a))) σ) : CmpWP C A .Gt (.int a) (.int b) σ Q X := by
  rintro s _ _ S ⟨⟩ ⟨⟩; exact PySem.P.gt_int (EP.pure S h (.bool _))
theorem CmpWP.ge_int {a b : Int} {Q : V → Store → Prop} (h : Q (.bool (decide (b ≤ a))) σ) : CmpWP C A .GtE (.int a) (.int b) σ Q X := by
  rintro s _ _ S ⟨⟩ ⟨⟩; exact PySem.P.ge_int (EP.pure S h (.bool _))
theorem CmpWP.eq_int {a b : Int} {Q : V → Store → Prop} (h : Q (.bool (a == b)) σ) : CmpWP C A .Eq (.int a) (.int b) σ Q X := by
  rintro s _ _ S ⟨⟩ ⟨⟩; exact PySem.P.eq_int (EP.pure S h (.bool _))
/- strs -/
theorem BinWP.add_str {a b : Str} {Q : V → Store → Prop} (h : Q (.str (a ++ b)) σ) (hs : a.length + b.length ≤ sizeLine) : BinWP C A .Add (.str a) (.str b) σ Q X := by
  rintro s _ _ S ⟨⟩ ⟨⟩; exact PyProof.Rows.add_str (fun _ _ => EP.pureT S h (.str _ _)) hs
theorem CmpWP.eq_str {a b : Str} {Q : V → Store → Prop} (h : Q (.bool (a == b)) σ) : CmpWP C A .Eq (.str a) (.str b) σ Q X := by
  rintro s _ _ S ⟨⟩ ⟨⟩; exact PyProof.Rows.eq_str (EP.pure S h (.bool _))
theorem CmpWP.ne_str {a b : Str} {Q : V → Store → Prop} (h : Q (.bool (a != b)) σ) : CmpWP C A .NotEq (.str a) (.str b) σ Q X := by
  rintro s _ _ S ⟨⟩ ⟨⟩; exact PyProof.Rows.ne_str (EP.pure S h (.bool _))
/- truth -/
theorem TruWP.bool {b : Bool} {Q : Bool → Store → Prop} (h : Q b σ) : TruWP C A (.bool b) σ Q X := by
  rintro s _ S ⟨⟩; exact wpAny_truthy_bool (TP.pure S h)
end

end Mine

set_option autoImplicit false
set_option linter.unusedVariables false
namespace Mine
open PySem PySem.W

section
variable {C : Cx} {A : Around} {env : Env} {ρ : Rho} {σ : Store} {X : XP} {s : Shared}

theorem tupKeep_sameBut {h h' : Heap} {a : Addr} (hs : Heap.SameBut a h h') (hn : ∀ o, h.get? a = some o → ¬ Imm o) : TupKeep h h' := fun b o i e => by
  by_cases q : b = a
  · subst q; exact absurd i (hn _ e)
  · exact (hs.2 b q).trans e
theorem Rep.notTup {h : Heap} {a : Addr} {o : O} (r : Rep C h a o) : ∀ o, h.get? a = some o → ¬ Imm o := fun o e => by
  obtain ⟨x, hx, h1⟩ := r.isSome
  rw [hx] at e; cases e; exact h1

theorem St.ne_of {a b : Addr} {o : O} (S : St C σ s) (ha : σ a = some o) (hb : σ b = none) : b ≠ a := fun e => by rw [e, ha] at hb; cases hb

theorem St.set {o o' : O} {a : Addr} {h' : Heap} {t : Nat} (S : St C σ s) (ha : σ a = some o) (hb : Heap.SameBut a s.heap h') (r : Rep C h' a o') :
    St C (σ.upd a o') { s with heap := h', toks := t } ∧ Evo σ s.heap (σ.upd a o') h' := by
  have tk : TupKeep s.heap h' := tupKeep_sameBut hb (S.rep a o ha).notTup
  refine ⟨⟨fun b x e => ?_, fun b x e => ?_, fun b x e => ?_, S.gens, S.os⟩, fun b x e n => ?_, fun b x e => ?_, fun b x e => ?_, tk⟩
  · have : b ≠ a := fun q => by
      subst q
      rw [(S.above b o ha).1] at e; cases e
    exact (hb.2 b this).trans (S.base b x e)
  · by_cases q : b = a
    · subst q; rw [Store.upd_self] at e; cases e; exact r
    · rw [Store.upd_ne _ _ q] at e
      exact (S.rep b x e).at (fun y hy => (hb.2 b q).trans hy) tk
  · by_cases q : b = a
    · subst q; exact S.above b o ha
    · rw [Store.upd_ne _ _ q] at e; exact S.above b x e
  · exact (hb.2 b (S.ne_of ha n)).trans e
  · left
    by_cases q : b = a
    · subst q; exact ⟨_, ha⟩
    · rw [Store.upd_ne _ _ q] at e; exact ⟨_, e⟩
  · by_cases q : b = a
    · subst q; exact ⟨_, Store.upd_self ..⟩
    · exact ⟨x, by rw [Store.upd_ne _ _ q]; exact e⟩

theorem St.fresh (S : St C σ s) : σ s.heap.objs.size = none := by
  cases q : σ s.heap.objs.size with
  | none => rfl
  | some o =>
    obtain ⟨x, hx, _⟩ := (S.rep _ _ q).isSome
    exact absurd (Heap.lt_size hx) (Nat.lt_irrefl _)

theorem get?_fresh (h : Heap) : h.get? h.objs.size = none := by
  cases q : h.get? h.objs.size with
  | none => rfl
  | some o => exact absurd (Heap.lt_size q) (Nat.lt_irrefl _)

theorem Evo.ext {h h' : Heap} (k : ∀ b o, h.get? b = some o → h'.get? b = some o) : Evo σ h σ h' :=
  ⟨fun b o e _ => k b o e, fun b o e => .inl ⟨o, e⟩, fun b o e => ⟨o, e⟩, fun a o i e => k _ _ e⟩
theorem St.ext {h' : Heap} {t : Nat} (S : St C σ s) (k : ∀ b o, s.heap.get? b = some o → h'.get? b = some o) : St C σ { s with heap := h', toks := t } :=
  ⟨fun b o e => k _ _ (S.base b o e), fun a o e => (S.rep a o e).at (fun x hx => k _ _ hx) fun _ _ _ e => k _ _ e, S.above, S.gens, S.os⟩

theorem push_size (h : Heap) (x : Obj) : (h.push x).objs.size = h.objs.size + 1 := by
  obtain ⟨o, l⟩ := h; simp [Heap.push]

theorem St.baseFresh {a : Addr} (S : St C σ s) (h : C.n₀ ≤ a) : C.h₀.get? a = none := by
  cases q : C.h₀.get? a with
  | none => rfl
  | some o => exact absurd (C.low _ _ q) (Nat.not_lt.mpr h)
theorem St.new {x : Obj} {o : O} {t : Nat} (S : St C σ s) (r : Rep C (s.heap.push x) s.heap.objs.size o) :
    St C (σ.upd s.heap.objs.size o) { s with heap := s.heap.push x, toks := t } ∧ Evo σ s.heap (σ.upd s.heap.objs.size o) (s.heap.push x) := by
  have k : ∀ b y, s.heap.get? b = some y → (s.heap.push x).get? b = some y := fun b y e => Heap.get?_push_of_some _ e
  have S' := S.ext (t := t) k
  refine ⟨⟨S'.base, fun b y e => ?_, fun b y e => ?_, S'.gens, S'.os⟩, fun b y e n => k b y e, fun b y e => ?_, fun b y e => ?_, fun a o i e => k _ _ e⟩
  · by_cases q : b = s.heap.objs.size
    · subst q; rw [Store.upd_self] at e; cases e; exact r
    · rw [Store.upd_ne _ _ q] at e; exact S'.rep b y e
  · by_cases q : b = s.heap.objs.size
    · subst q; exact ⟨S.baseFresh S.size, .inl S.size⟩
    · rw [Store.upd_ne _ _ q] at e; exact S.above b y e
  · by_cases q : b = s.heap.objs.size
    · subst q; exact .inr (get?_fresh _)
    · rw [Store.upd_ne _ _ q] at e; exact .inl ⟨_, e⟩
  · by_cases q : b = s.heap.objs.size
    · subst q; exact ⟨_, Store.upd_self ..⟩
    · exact ⟨y, by rw [Store.upd_ne _ _ q]; exact e⟩

theorem St.push {x : Obj} {t : Nat} (S : St C σ s) : St C σ { s with heap := s.heap.push x, toks := t } :=
  S.ext (fun b y e => Heap.get?_push_of_some _ e)
theorem Evo.push {h : Heap} {x : Obj} : Evo σ h σ (h.push x) := .ext fun b y e => Heap.get?_push_of_some _ e

/- argument lists, displays -/
def AP (C : Cx) (σ : Store) (h : Heap) (Q : List V → Store → Prop) (vs : List Value) (s' : Shared) : Prop :=
  ∃ xs σ', Q xs σ' ∧ VRs s'.heap vs xs ∧ St C σ' s' ∧ Evo σ h σ' s'.heap
def Ags (C : Cx) (A : Around) (env : Env) (pos : Pos) (es : List Expr) (ρ : Rho) (σ : Store) (Q : List V → Store → Prop) (X : XP) : Prop :=
  ∀ s, St C σ s → Fm C σ s.heap env ρ → wpAny C.M A (spliced (backTo pos (starEach es env))) (AP C σ s.heap Q) X s
theorem Ags.nil {pos : Pos} {Q : List V → Store → Prop} (h : Q [] σ) : Ags C A env pos [] ρ σ Q X :=
  fun s S F => wpAny_items_nil ⟨[], σ, h, .nil, S, .refl ..⟩
theorem Ags.cons {pos : Pos} {e : Expr} {es : List Expr} {Q : List V → Store → Prop}
    (h : Ev C A env e ρ σ (fun x σ1 => Ags C A env pos es ρ σ1 (fun xs σ2 => Q (x :: xs) σ2) X) X)
    (he : starEach (e :: es) env = (false, eval e env) :: starEach es env := by kernel_rfl) : Ags C A env pos (e :: es) ρ σ Q X := by
  intro s S F
  refine wpAny_items_cons (wpAny_mono (h s S F) ?_ fun _ _ z => z) he
  rintro v s1 ⟨x, σ1, h1, r1, S1, e1⟩
  refine wpAny_mono (h1 s1 S1 (F.evo e1)) ?_ fun _ _ z => z
  rintro vs s2 ⟨xs, σ2, h2, r2, S2, e2⟩
  exact ⟨x :: xs, σ2, h2, .cons (r1.mono e2.tup) r2, S2, e1.trans e2⟩

theorem VRs.push {h : Heap} {x : Obj} {vs : List Value} {xs : List V} (r : VRs h vs xs) : VRs (h.push x) vs xs := r.mono fun _ _ _ e => Heap.get?_push_of_some _ e

theorem Ev.tuple {es : List Expr} {k : Nat} {pos : Pos} {Q : V → Store → Prop} (h : Ags C A env pos es ρ σ (fun xs σ1 => xs.length ≤ sizeLine ∧ Q (.tup xs) σ1) X) :
    Ev C A env (.Tuple es k pos) ρ σ Q X := by
  intro s S F
  refine wpAny_Tuple (wpAny_mono (h s S F) ?_ fun _ _ z => z)
  rintro vs s1 ⟨xs, σ1, ⟨hz, q⟩, r1, S1, e1⟩
  refine ⟨by rw [r1.length]; exact hz, .tup xs, σ1, q, .tup (n := 0) (Heap.get?_push_size _ rfl) (by simpa using r1.push), S1.push, e1.trans .push⟩

theorem rep_list_push {h : Heap} {vs : List Value} {xs : List V} (r : VRs h vs xs) : Rep C (h.push { cls := .type "list", data := .seq vs.toArray }) h.objs.size (.list xs) :=
  ⟨vs.toArray, ⟨0, Heap.get?_push_size _ rfl⟩, by simpa using r.push⟩

theorem Ev.list {es : List Expr} {pos : Pos} {Q : V → Store → Prop} (h : Ags C A env pos es ρ σ (fun xs σ1 => xs.length ≤ sizeLine ∧ ∀ a, σ1 a = none → Q (.ref a) (σ1.upd a (.list xs))) X) :
    Ev C A env (.List es pos) ρ σ Q X := by
  intro s S F
  refine wpAny_List (wpAny_mono (h s S F) ?_ fun _ _ z => z)
  rintro vs s1 ⟨xs, σ1, ⟨hz, q⟩, r1, S1, e1⟩
  obtain ⟨S2, e2⟩ := S1.new (t := s1.toks) (rep_list_push r1)
  exact ⟨by rw [r1.length]; exact hz, .ref _, _, q _ S1.fresh, .ref _, S2, e1.trans e2⟩

/- statements -/
inductive FV where
  | next | brk | cont | ret (v : V)
inductive FR (h : Heap) : Flow → FV → Prop where
  | next : FR h .next .next
  | brk : FR h .brk .brk
  | cont : FR h .cont .cont
  | ret {v : Value} {x : V} : VR h v x → FR h (.ret v) (.ret x)

def Own (env : Env) (b : Addr) : Prop := b = env.locals ∨ ∃ x, env.cells.lookup x = some b
structure EvoF (env : Env) (σ : Store) (h : Heap) (σ' : Store) (h' : Heap) : Prop where
  keep : ∀ b o, h.get? b = some o → σ b = none → ¬ Own env b → h'.get? b = some o
  dom : ∀ b o, σ' b = some o → (∃ o', σ b = some o') ∨ h.get? b = none
  mono : ∀ b o, σ b = some o → ∃ o', σ' b = some o'
  tup : TupKeep h h'
  there : ∀ b o, h.get? b = some o → Own env b → ∃ o', h'.get? b = some o'
theorem Evo.evoF {σ' : Store} {h h' : Heap} (x : Evo σ h σ' h') (hown : ∀ b, Own env b → σ b = none) : EvoF env σ h σ' h' :=
  ⟨fun b o e n _ => x.keep b o e n, x.dom, x.mono, x.tup, fun b o e w => ⟨o, x.keep b o e (hown b w)⟩⟩
theorem EvoF.refl (h : Heap) : EvoF env σ h σ h := ⟨fun _ _ e _ _ => e, fun _ _ e => .inl ⟨_, e⟩, fun _ _ e => ⟨_, e⟩, .refl _, fun _ o e _ => ⟨o, e⟩⟩
theorem EvoF.trans {σ1 σ2 σ3 : Store} {h1 h2 h3 : Heap} (x : EvoF env σ1 h1 σ2 h2) (y : EvoF env σ2 h2 σ3 h3) : EvoF env σ1 h1 σ3 h3 := by
  refine ⟨fun b o e n w => ?_, fun b o e => ?_, fun b o e => ?_, x.tup.trans y.tup, fun b o e w => ?_⟩
  · refine y.keep b o (x.keep b o e n w) ?_ w
    cases q : σ2 b with
    | none => rfl
    | some o2 =>
      rcases x.dom b o2 q with ⟨o', e'⟩ | e'
      · rw [n] at e'; cases e'
      · rw [e] at e'; cases e'
  · rcases y.dom b o e with ⟨o', e'⟩ | e'
    · exact x.dom b o' e'
    · cases q : h1.get? b with
      | none => exact .inr rfl
      | some o1 =>
        left
        cases q' : σ1 b with
        | some o' => exact ⟨o', rfl⟩
        | none =>
          exfalso
          by_cases w : Own env b
          · obtain ⟨o', z⟩ := x.there b o1 q w
            rw [z] at e'; cases e'
          · rw [x.keep b o1 q q' w] at e'; cases e'
  · obtain ⟨o', e'⟩ := x.mono b o e
    exact y.mono b o' e'
  · obtain ⟨o', z⟩ := x.there b o e w
    exact y.there b o' z w

theorem Fm.own {h : Heap} (F : Fm C σ h env ρ) : ∀ b, Own env b → σ b = none := by
  rintro b (rfl | ⟨x, e⟩)
  · exact F.locs
  · exact (F.ncell x b e).1

def SP (C : Cx) (env : Env) (σ : Store) (h : Heap) (Q : FV → Rho → Store → Prop) (f : Flow) (s' : Shared) : Prop :=
  ∃ g ρ' σ', Q g ρ' σ' ∧ FR s'.heap f g ∧ St C σ' s' ∧ Fm C σ' s'.heap env ρ' ∧ EvoF env σ h σ' s'.heap
theorem SP.after {σ1 : Store} {h h1 : Heap} {Q : FV → Rho → Store → Prop} {f : Flow} {s' : Shared} (x : SP C env σ1 h1 Q f s') (k : EvoF env σ h σ1 h1) : SP C env σ h Q f s' :=
  let ⟨a, b, c, d, e, f, g, i⟩ := x; ⟨a, b, c, d, e, f, g, k.trans i⟩
theorem SP.mono {h : Heap} {Q Q' : FV → Rho → Store → Prop} {f : Flow} {s' : Shared} (x : SP C env σ h Q f s') (k : ∀ g ρ σ, Q g ρ σ → Q' g ρ σ) : SP C env σ h Q' f s' :=
  let ⟨a, b, c, d, e⟩ := x; ⟨a, b, c, k _ _ _ d, e⟩

def Ex (C : Cx) (A : Around) (env : Env) (st : Stmt) (ρ : Rho) (σ : Store) (Q : FV → Rho → Store → Prop) (X : XP) : Prop :=
  ∀ s, St C σ s → Fm C σ s.heap env ρ → wpAny C.M A (exec st env) (SP C env σ s.heap Q) X s
def Exs (C : Cx) (A : Around) (env : Env) (st : List Stmt) (ρ : Rho) (σ : Store) (Q : FV → Rho → Store → Prop) (X : XP) : Prop :=
  ∀ s, St C σ s → Fm C σ s.heap env ρ → wpAny C.M A (execs st env) (SP C env σ s.heap Q) X s

theorem Exs.mono {ss : List Stmt} {Q Q' : FV → Rho → Store → Prop} (h : Exs C A env ss ρ σ Q X) (k : ∀ g ρ σ, Q g ρ σ → Q' g ρ σ) : Exs C A env ss ρ σ Q' X :=
  fun s S F => wpAny_mono (h s S F) (fun _ _ z => z.mono k) fun _ _ z => z
theorem Ex.mono {ss : Stmt} {Q Q' : FV → Rho → Store → Prop} (h : Ex C A env ss ρ σ Q X) (k : ∀ g ρ σ, Q g ρ σ → Q' g ρ σ) : Ex C A env ss ρ σ Q' X :=
  fun s S F => wpAny_mono (h s S F) (fun _ _ z => z.mono k) fun _ _ z => z

/-- what goes on behind a statement -/
def Then (C : Cx) (A : Around) (env : Env) (ss : List Stmt) (Q : FV → Rho → Store → Prop) (X : XP) (g : FV) (ρ : Rho) (σ : Store) : Prop :=
  match g with
  | .next => Exs C A env ss ρ σ Q X
  | g => Q g ρ σ
theorem Exs.nil {Q : FV → Rho → Store → Prop} (h : Q .next ρ σ) : Exs C A env [] ρ σ Q X :=
  fun s S F => wpAny_execs_nil ⟨.next, ρ, σ, h, .next, S, F, .refl _⟩
theorem Exs.cons {st : Stmt} {ss : List Stmt} {Q : FV → Rho → Store → Prop} (h : Ex C A env st ρ σ (Then C A env ss Q X) X) : Exs C A env (st :: ss) ρ σ Q X := by
  intro s S F
  refine wpAny_execs_cons (wpAny_mono (h s S F) ?_ fun _ _ z => z)
  rintro f s1 ⟨g, ρ1, σ1, h1, r1, S1, F1, e1⟩
  cases r1 with
  | next => exact wpAny_mono (h1 s1 S1 F1) (fun _ _ z => z.after e1) fun _ _ z => z
  | brk => exact ⟨_, _, _, h1, .brk, S1, F1, e1⟩
  | cont => exact ⟨_, _, _, h1, .cont, S1, F1, e1⟩
  | ret r => exact ⟨_, _, _, h1, .ret r, S1, F1, e1⟩

theorem Ex.ret {e : Expr} {pos : Pos} {Q : FV → Rho → Store → Prop} (h : Ev C A env e ρ σ (fun x σ1 => Q (.ret x) ρ σ1) X) : Ex C A env (.Return (some e) pos) ρ σ Q X := by
  intro s S F
  refine wpAny_Return_some (wpAny_mono (h s S F) ?_ fun _ _ z => z)
  rintro v s1 ⟨x, σ1, h1, r1, S1, e1⟩
  exact ⟨_, _, _, h1, .ret r1, S1, F.evo e1, e1.evoF F.own⟩
theorem Ex.ite {t : Expr} {b1 b2 : List Stmt} {pos : Pos} {Q : FV → Rho → Store → Prop} (h : Tst C A env t ρ σ (fun b σ1 => if b then Exs C A env b1 ρ σ1 Q X else Exs C A env b2 ρ σ1 Q X) X) :
    Ex C A env (.If t b1 b2 pos) ρ σ Q X := by
  intro s S F
  refine wpAny_If (wpAny_mono (h s S F) ?_ fun _ _ z => z)
  rintro b s1 ⟨σ1, h1, S1, e1⟩
  cases b
  · exact wpAny_mono (h1 s1 S1 (F.evo e1)) (fun _ _ z => z.after (e1.evoF F.own)) fun _ _ z => z
  · exact wpAny_mono (h1 s1 S1 (F.evo e1)) (fun _ _ z => z.after (e1.evoF F.own)) fun _ _ z => z

/-- a list that stood at the call -/
def BaseL (C : Cx) (l : Addr) (xs : List V) : Prop := ∃ items, C.h₀.IsList l items ∧ VRs C.h₀ items.toList xs
/-- a list's items: of the store, or of the base -/
def LstAt (C : Cx) (σ : Store) (l : Addr) (xs : List V) : Prop := σ l = some (.list xs) ∨ BaseL C l xs


theorem LstAt.raw {l : Addr} {xs : List V} (h : LstAt C σ l xs) (S : St C σ s) : ∃ items, s.heap.IsList l items ∧ VRs s.heap items.toList xs := by
  rcases h with h | ⟨items, ⟨o, e, r⟩, h2⟩
  · obtain ⟨items, pl, r⟩ := S.rep _ _ h
    exact ⟨items, pl.isList, r⟩
  · exact ⟨items, ⟨o, S.base _ _ e, r⟩, h2.mono fun _ _ _ e => S.base _ _ e⟩

end

end Mine

set_option autoImplicit false
set_option linter.unusedVariables false
namespace Mine
open PySem PySem.W

section
variable {C : Cx} {A : Around} {env : Env} {ρ : Rho} {σ : Store} {X : XP} {s : Shared}

/-- a statement's value thrown away -/
theorem Ex.expr {e : Expr} {pos : Pos} {Q : FV → Rho → Store → Prop} (h : Ev C A env e ρ σ (fun x σ1 => Q .next ρ σ1) X)
    (hi : interactive env = false := by kernel_rfl) (hs : swapsWith e none pos.line env = pure false := by kernel_rfl) : Ex C A env (.Expr e pos) ρ σ Q X := by
  intro s S F
  refine wpAny_Expr_any (wpAny_mono (h s S F) ?_ fun _ _ z => z) hi hs
  rintro v s1 ⟨x, σ1, h1, r1, S1, e1⟩
  exact ⟨_, _, _, h1, .next, S1, F.evo e1, e1.evoF F.own⟩

/- assigning -/
def Asg (C : Cx) (A : Around) (env : Env) (t : Expr) (x : V) (ρ : Rho) (σ : Store) (Q : Rho → Store → Prop) (X : XP) : Prop :=
  ∀ s v, St C σ s → Fm C σ s.heap env ρ → VR s.heap v x → wpAny C.M A (assign t env v) (fun _ s' => ∃ ρ' σ', Q ρ' σ' ∧ St C σ' s' ∧ Fm C σ' s'.heap env ρ' ∧ EvoF env σ s.heap σ' s'.heap) X s

theorem Fm.storeLocal {h h' : Heap} {x : Str} {v : Value} {y : V} {m : Str → Option Value} {t : Nat} (S : St C σ s) (F : Fm C σ s.heap env ρ) (hk : env.kindOf x = some .local)
    (hm : s.heap.Ns env.locals m) (f : ∀ x v, env.kindOf x = some .local → ρ.get x = some v → ∃ u, m x = some u ∧ VR s.heap u v)
    (hn : h'.Ns env.locals (fun z => if z = x then some v else m z)) (hs : Heap.SameBut env.locals s.heap h') (r : VR s.heap v y)
    (hc : env.cells.lookup x = none) :
    St C σ { s with heap := h', toks := t } ∧ Fm C σ h' env (ρ.put x y) ∧ EvoF env σ s.heap σ h' := by
  have nt : ∀ o, s.heap.get? env.locals = some o → ¬ Imm o := fun o e => by obtain ⟨o', es, ep, ho, hd, _⟩ := hm; rw [ho] at e; cases e; exact Imm.notDict hd
  have tk := tupKeep_sameBut hs nt
  have ne : ∀ b o, σ b = some o → b ≠ env.locals := fun b o e q => by rw [q, F.locs] at e; cases e
  refine ⟨⟨fun b o e => ?_, fun b o e => ?_, S.above, S.gens, S.os⟩, ⟨F.fn, ⟨_, hn, fun z u hz hu => ?_⟩, F.locs, F.abv, fun z c hz => ?_, F.ncell, F.apart⟩, fun b o e n w => ?_, fun b o e => .inl ⟨o, e⟩, fun b o e => ⟨o, e⟩, tk, fun b o e w => ?_⟩
  · refine (hs.2 b fun q => ?_).trans (S.base b o e)
    subst q; exact absurd (C.low _ _ e) (Nat.not_lt.mpr F.abv)
  · exact (S.rep b o e).at (fun y hy => (hs.2 b (ne b o e)).trans hy) tk
  · rw [Rho.get_put] at hu
    by_cases q : z = x
    · subst q; rw [if_pos rfl] at hu; cases hu; exact ⟨v, by simp, r.mono tk⟩
    · rw [if_neg q] at hu
      obtain ⟨a, b, d⟩ := f z u hz hu
      exact ⟨a, by simp [q, b], d.mono tk⟩
  · obtain ⟨ov, a, b⟩ := F.cell z c hz
    obtain ⟨n1, n2, n3⟩ := F.ncell z c hz
    refine ⟨ov, a.sameBut hs n2, fun u hu => ?_⟩
    rw [Rho.get_put, if_neg (fun q => by subst q; rw [hc] at hz; cases hz)] at hu
    obtain ⟨p, q1, q2⟩ := b u hu
    exact ⟨p, q1, q2.mono tk⟩
  · exact (hs.2 b fun q => w (.inl q)).trans e
  · by_cases q : b = env.locals
    · subst q
      obtain ⟨o', _, _, ho, _⟩ := hn
      exact ⟨o', ho⟩
    · exact ⟨o, (hs.2 b q).trans e⟩

theorem Asg.loc {x : Str} {pos : Pos} {y : V} {ρ' : Rho} {Q : Rho → Store → Prop} (hk : env.kindOf x = some .local) (hc : env.cells.lookup x = none) (hp : ρ.put x y = ρ') (h : Q ρ' σ) :
    Asg C A env (.Name x pos) y ρ σ Q X := by
  intro s v S F r
  obtain ⟨m, hm, f⟩ := F.loc
  refine wpAny_assign_Name (wpAny_storeName_local hk hm (fun h' hn hs => ?_) (by rw [F.fn]; rfl))
  obtain ⟨a, b, c⟩ := Fm.storeLocal (h := s.heap) (t := s.toks + 1) S F hk hm f hn hs r hc
  exact ⟨_, _, h, a, hp ▸ b, c⟩

theorem Asg.cel {x : Str} {pos : Pos} {y : V} {c : Addr} {ρ' : Rho} {Q : Rho → Store → Prop} (hk : env.kindOf x = some .cell) (hc : env.cells.lookup x = some c) (hp : ρ.put x y = ρ') (h : Q ρ' σ) :
    Asg C A env (.Name x pos) y ρ σ Q X := by
  intro s v S F r
  obtain ⟨ov, a, b⟩ := F.cell x c hc
  obtain ⟨n1, n2, n3⟩ := F.ncell x c hc
  refine wpAny_assign_Name (wpAny_storeName_cell F.fn hk hc a (fun h' hcl hs => ?_))
  have nt : ∀ o, s.heap.get? c = some o → ¬ Imm o := fun o e => by obtain ⟨o', ho, hd⟩ := a; rw [ho] at e; cases e; exact Imm.notCell hd
  have tk := tupKeep_sameBut hs nt
  have ne : ∀ b o, σ b = some o → b ≠ c := fun b o e q => by rw [q, n1] at e; cases e
  obtain ⟨m, hm, f⟩ := F.loc
  refine ⟨ρ', σ, h, ⟨fun b o e => ?_, fun b o e => ?_, S.above, S.gens, S.os⟩, hp ▸ ⟨F.fn, ⟨m, hm.sameBut hs n2.symm, fun z u hz hu => ?_⟩, F.locs, F.abv, fun z d hz => ?_, F.ncell, F.apart⟩, fun b o e n w => ?_, fun b o e => .inl ⟨o, e⟩, fun b o e => ⟨o, e⟩, tk, fun b o e w => ?_⟩
  · refine (hs.2 b fun q => ?_).trans (S.base b o e)
    subst q; exact absurd (C.low _ _ e) (Nat.not_lt.mpr n3)
  · exact (S.rep b o e).at (fun y hy => (hs.2 b (ne b o e)).trans hy) tk
  · rw [Rho.get_put, if_neg (fun q => by subst q; rw [hk] at hz; cases hz)] at hu
    obtain ⟨a, b, d⟩ := f z u hz hu
    exact ⟨a, b, d.mono tk⟩
  · by_cases q : z = x
    · subst q
      rw [hc] at hz; cases hz
      exact ⟨some v, hcl, fun u hu => by rw [Rho.get_put, if_pos rfl] at hu; cases hu; exact ⟨v, rfl, r.mono tk⟩⟩
    · have dc : d ≠ c := fun e => q (F.apart z x d hz (e ▸ hc))
      obtain ⟨ov', a', b'⟩ := F.cell z d hz
      refine ⟨ov', a'.sameBut hs dc, fun u hu => ?_⟩
      rw [Rho.get_put, if_neg q] at hu
      obtain ⟨p, q1, q2⟩ := b' u hu
      exact ⟨p, q1, q2.mono tk⟩
  · exact (hs.2 b fun q => w (.inr ⟨x, q ▸ hc⟩)).trans e
  · by_cases q : b = c
    · subst q
      obtain ⟨o', ho, _⟩ := hcl
      exact ⟨o', ho⟩
    · exact ⟨o, (hs.2 b q).trans e⟩

/-- one target -/
theorem Ex.assign {t value : Expr} {pos : Pos} {Q : FV → Rho → Store → Prop} (h : Ev C A env value ρ σ (fun x σ1 => Asg C A env t x ρ σ1 (fun ρ' σ' => Q .next ρ' σ') X) X)
    (hs : swapsWithSole [t] value pos.line env = pure false := by kernel_rfl) (hw : swappedStores [t] value env = pure none := by kernel_rfl)
    (ht : (assignEach [t] env).map (·.2) = [assign t env] := by kernel_rfl) : Ex C A env (.Assign [t] value pos) ρ σ Q X := by
  intro s S F
  refine wpAny_Assign_stores (wpAny_mono (h s S F) ?_ fun _ _ z => z) hs hw
  rintro v s1 ⟨x, σ1, h1, r1, S1, e1⟩
  rw [ht]
  refine wpAny_mono (h1 s1 v S1 (F.evo e1) r1) ?_ fun _ _ z => z
  rintro _ s2 ⟨ρ', σ', q, S2, F2, e2⟩
  exact ⟨_, _, _, q, .next, S2, F2, (e1.evoF F.own).trans e2⟩

/- tuple targets -/
def AsgO (C : Cx) (A : Around) (env : Env) (ts : List Expr) (xs : List V) (ρ : Rho) (σ : Store) (Q : Rho → Store → Prop) (X : XP) : Prop :=
  ∀ s vs, St C σ s → Fm C σ s.heap env ρ → VRs s.heap vs xs → wpAny C.M A (assignInOrder ((assignEach ts env).map (·.2)) vs) (fun _ s' => ∃ ρ' σ', Q ρ' σ' ∧ St C σ' s' ∧ Fm C σ' s'.heap env ρ' ∧ EvoF env σ s.heap σ' s'.heap) X s
end

end Mine

set_option autoImplicit false
set_option linter.unusedVariables false
namespace Mine
open PySem PySem.W

def FV.val : FV → V
  | .ret v => v
  | _ => .none
def fval : Flow → Value
  | .ret v => v
  | _ => .none
theorem FR.val {h : Heap} {f : Flow} {g : FV} (r : FR h f g) : VR h (fval f) g.val := by
  cases r <;> first | exact .none | assumption

def CallWP (C : Cx) (A : Around) (f : Value) (args : List V) (σ : Store) (Q : V → Store → Prop) (X : XP) : Prop :=
  ∀ s vs, St C σ s → VRs s.heap vs args → wpAny C.M A (call f vs) (EP C σ s.heap Q) X s

section
variable {kindOf : Str → Option NameKind} {h : Heap}
theorem bindL_notin {x : Str} : ∀ (names : List Str) (vals : List Value) (m : Str → Option Value), x ∉ names → bindL kindOf (names.zip vals) m x = m x
  | [], _, _, _ => rfl
  | _ :: _, [], _, _ => rfl
  | n :: names, v :: vals, m, hx => by
    show bindL kindOf (names.zip vals) _ x = m x
    rw [bindL_notin names vals _ fun q => hx (.tail _ q)]
    split
    · exact if_neg fun (q : x = n) => hx (q ▸ .head _)
    · rfl
theorem bindC_notin {x : Str} : ∀ (names : List Str) (vals : List Value) (m : Str → Option Value), x ∉ names → bindC kindOf (names.zip vals) m x = m x
  | [], _, _, _ => rfl
  | _ :: _, [], _, _ => rfl
  | n :: names, v :: vals, m, hx => by
    show bindC kindOf (names.zip vals) _ x = m x
    rw [bindC_notin names vals _ fun q => hx (.tail _ q)]
    split
    · rfl
    · exact if_neg fun (q : x = n) => hx (q ▸ .head _)
theorem bindL_get {x : Str} {y : V} : ∀ (names : List Str) (vals : List Value) (args : List V) (m : Str → Option Value), VRs h vals args → names.Nodup → kindOf x = some .local →
    Rho.get (names.zip args) x = some y → ∃ u, bindL kindOf (names.zip vals) m x = some u ∧ VR h u y
  | [], _, _, _, _, _, _, e => by cases e
  | _ :: _, _, _, _, .nil, _, _, e => by cases e
  | n :: names, v :: vals, a :: args, m, .cons r rs, nd, hk, e => by
    have nd' := List.nodup_cons.mp nd
    show ∃ u, bindL kindOf (names.zip vals) _ x = some u ∧ _
    have e' : (if x = n then some a else Rho.get (names.zip args) x) = some y := e
    by_cases q : x = n
    · subst q
      rw [if_pos rfl] at e'; cases e'
      rw [bindL_notin names vals _ nd'.1, if_pos hk]
      exact ⟨v, if_pos rfl, r⟩
    · rw [if_neg q] at e'
      exact bindL_get names vals args _ rs nd'.2 hk e'
theorem bindC_get {x : Str} {y : V} : ∀ (names : List Str) (vals : List Value) (args : List V) (m : Str → Option Value), VRs h vals args → names.Nodup → kindOf x ≠ some .local →
    Rho.get (names.zip args) x = some y → ∃ u, bindC kindOf (names.zip vals) m x = some u ∧ VR h u y
  | [], _, _, _, _, _, _, e => by cases e
  | _ :: _, _, _, _, .nil, _, _, e => by cases e
  | n :: names, v :: vals, a :: args, m, .cons r rs, nd, hk, e => by
    have nd' := List.nodup_cons.mp nd
    show ∃ u, bindC kindOf (names.zip vals) _ x = some u ∧ _
    have e' : (if x = n then some a else Rho.get (names.zip args) x) = some y := e
    by_cases q : x = n
    · subst q
      rw [if_pos rfl] at e'; cases e'
      rw [bindC_notin names vals _ nd'.1, if_neg hk]
      exact ⟨v, if_pos rfl, r⟩
    · rw [if_neg q] at e'
      exact bindC_get names vals args _ rs nd'.2 hk e'
end

theorem cellsFrom_mem : ∀ (names : List (Str × NameKind)) (n : Nat) (acc : List (Str × Addr)) (x : Str) (c : Addr), (x, c) ∈ cellsFrom n names acc → (x, c) ∈ acc ∨ (x, NameKind.cell) ∈ names
  | [], _, _, _, _, h => .inl h
  | (nm, k) :: r, n, acc, x, c, h => by
    unfold cellsFrom at h
    split at h
    · rename_i hk
      rcases cellsFrom_mem r _ _ x c h with q | q
      · rcases List.mem_cons.mp q with q | q
        · cases q
          right
          rw [← beq_iff_eq.mp hk]
          exact .head _
        · exact .inl q
      · exact .inr (.tail _ q)
    · rcases cellsFrom_mem r _ _ x c h with q | q
      · exact .inl q
      · exact .inr (.tail _ q)

/-- cells of a scope are cells by its table -/
def scopeOk (scope : Scope) : Bool := scope.names.all fun p => p.2 != .cell || scope.names.lookup p.1 == some .cell

section
variable {C : Cx} {A : Around} {env : Env} {ρ : Rho} {σ : Store} {X : XP} {s : Shared}

theorem St.callee {fd : FuncData} {f : Addr} {names : List Str} {vals : List Value} {args : List V} {s₁ : Shared} (S : St C σ s) (r : VRs s.heap vals args) (nd : names.Nodup) (hk : fd.scope.kind = .function) (hsc : scopeOk fd.scope = true)
    (x : InCallC s (callEnvC fd s.heap.objs.size f).locals (bindL (callEnvC fd s.heap.objs.size f).kindOf (names.zip vals) fun _ => none) (callEnvC fd s.heap.objs.size f).cells
        (bindC (callEnvC fd s.heap.objs.size f).kindOf (names.zip vals) fun _ => none) s₁) :
    St C σ s₁ ∧ Fm C σ s₁.heap (callEnvC fd s.heap.objs.size f) (names.zip args) ∧ (∀ b o, s.heap.get? b = some o → s₁.heap.get? b = some o) := by
  obtain ⟨⟨⟨h, tk, rfl⟩, ns, keep, fr⟩, cell, apart, above⟩ := x
  have L : (callEnvC fd s.heap.objs.size f).locals = s.heap.objs.size := rfl
  have e0 : Evo σ s.heap σ h := .ext keep
  have fresh : ∀ b, s.heap.objs.size ≤ b → σ b = none := fun b hb => by
    cases q : σ b with
    | none => rfl
    | some o =>
      obtain ⟨y, hy, _⟩ := (S.rep _ _ q).isSome
      exact absurd (Heap.lt_size hy) (Nat.not_lt.mpr hb)
  have up : ∀ n c, (callEnvC fd s.heap.objs.size f).cells.lookup n = some c → s.heap.objs.size < c := fun n c hc => L ▸ above n c (mem_of_lookup hc)
  refine ⟨S.ext keep, ⟨hk, ⟨_, ns, fun y v hy hv => bindL_get names vals args _ (r.mono e0.tup) nd hy hv⟩, fresh _ (L ▸ Nat.le_refl _), L ▸ S.size, fun y c hc => ⟨_, cell y c hc, fun v hv => ?_⟩, fun y c hc => ?_, fun y z c hy hz => ?_⟩, keep⟩
  · refine bindC_get names vals args _ (r.mono e0.tup) nd ?_ hv
    rcases cellsFrom_mem _ _ _ _ _ (mem_of_lookup hc) with q | q
    · cases q
    · have := List.all_eq_true.mp hsc _ q
      intro z
      have z' : fd.scope.names.lookup y = some .local := z
      simp only [bne_self_eq_false, Bool.false_or, beq_iff_eq] at this
      rw [z'] at this; cases this
  · have := up y c hc
    exact ⟨fresh c (Nat.le_of_lt this), fun q => by rw [q, L] at this; exact Nat.lt_irrefl _ this, Nat.le_trans S.size (Nat.le_of_lt this)⟩
  · exact name_of_addr apart (mem_of_lookup hy) (mem_of_lookup hz)

theorem EP.ret {s₁ : Shared} {fd : FuncData} {f : Addr} {Q : V → Store → Prop} {fl : Flow} {s' : Shared} (S : St C σ s) (keep : ∀ b o, s.heap.get? b = some o → s₁.heap.get? b = some o)
    (hup : ∀ n c, (callEnvC fd s.heap.objs.size f).cells.lookup n = some c → s.heap.objs.size < c)
    (z : SP C (callEnvC fd s.heap.objs.size f) σ s₁.heap (fun g _ σ' => Q g.val σ') fl s') : EP C σ s.heap Q (fval fl) s' := by
  obtain ⟨g, ρ', σ', q, r, S', F', e⟩ := z
  refine ⟨g.val, σ', q, r.val, S', fun b o hb n => ?_, fun b o hb => ?_, e.mono, fun a o i h => e.tup _ _ i (keep _ _ h)⟩
  · refine e.keep b o (keep b o hb) n ?_
    have hlt := Heap.lt_size hb
    rintro (q | ⟨x, hx⟩)
    · rw [q] at hlt; exact Nat.lt_irrefl _ hlt
    · exact absurd (hup x b hx) (Nat.not_lt.mpr (Nat.le_of_lt hlt))
  · rcases e.dom b o hb with h | h
    · exact .inl h
    · right
      cases q : s.heap.get? b with
      | none => rfl
      | some y => rw [keep b y q] at h; cases h

/-- a call of a def that raises nothing -/
theorem CallWP.fn {f : Addr} {o : Obj} {fd : FuncData} {body : List Stmt} {names : List Str} {args : List V} {Q : V → Store → Prop}
    (ho : C.h₀.get? f = some o) (hd : o.data = .func fd) (hlim : C.h₀.NoLimit) (hcd : C.h₀.CodeRec fd.code fd.qualname) (hbody : fd.body = .stmts body)
    (hbind : ∀ vals : List Value, vals.length = args.length → bindArgs fd ⟨vals, []⟩ = pure (names.zip vals)) (hclo : fd.closure = []) (nd : names.Nodup)
    (hkind : ∀ x ∈ names, fd.scope.names.lookup x = some .local ∨ (fd.scope.names.lookup x = some .cell ∧ ∀ L, ((cellsFrom L fd.scope.names []).lookup x).isSome = true))
    (hroom : A.depth < recursionLimit) (hsc : scopeOk fd.scope = true) (hco : fd.scope.isCoroutine = false) (hgen : fd.scope.isGenerator = false) (hk : fd.scope.kind = .function)
    (h : ∀ L, Exs C (A.deeper (callEnvC fd L f)) (callEnvC fd L f) body (names.zip args) σ (fun g _ σ' => Q g.val σ') (fun _ _ => False)) : CallWP C A (.ref f) args σ Q X := by
  intro s vs S r
  have hk' : ∀ b o, C.h₀.get? b = some o → s.heap.get? b = some o := S.base
  refine wpAny_call (codeAny_call_cells (fd := fd) hroom (hk' _ _ ho) hd (hlim.keeps hk') (hcd.keeps hk') hbody (hbind vs r.length) hclo ?_ (fun s₁ x => ?_) hco hgen hk)
  · intro y hy
    rcases hkind y.1 (List.of_mem_zip hy).1 with q | ⟨q, q'⟩
    · exact .inl q
    · exact .inr ⟨q, q' _⟩
  · obtain ⟨S₁, F₁, keep⟩ := S.callee r nd hk hsc x
    refine wpAny_mono (h s.heap.objs.size s₁ S₁ F₁) (fun fl s' z => ?_) (fun _ _ z => z.elim)
    have y := EP.ret S keep (fun n c hc => x.above n c (mem_of_lookup hc)) z
    cases fl <;> exact y
end

end Mine

set_option autoImplicit false
set_option linter.unusedVariables false
namespace Mine
open PySem PySem.W

section
variable {C : Cx} {A : Around} {env : Env} {ρ : Rho} {σ : Store} {X : XP} {s : Shared}

theorem VR.base {v : Value} {x : V} (r : VR C.h₀ v x) (S : St C σ s) : VR s.heap v x := r.mono fun _ _ _ e => S.base _ _ e

theorem Ev.glob {x : Str} {pos : Pos} {v : Value} {y : V} {Q : V → Store → Prop} (hk : env.kindOf x = some .globalImplicit) (e : nsIn C.K mainGlobals x = some (some v)) (r : VR C.h₀ v y) (h : Q y σ)
    (hg : env.globals = mainGlobals) (hd : (x == ("__debug__" : Str)) = false) : Ev C A env (.Name x pos) ρ σ Q X := by
  intro s S F
  refine Calls.Name_function_global F.fn hk (Calls.loadGlobal_global (mg := C.mg) ?_ (mg_of C.KX C.hg e) (EP.pure S h (r.base S))) hd
  rw [hg]; exact C.hg.keeps S.base
theorem Ev.gblt {x : Str} {pos : Pos} {v : Value} {y : V} {Q : V → Store → Prop} (hk : env.kindOf x = some .globalImplicit) (e : nsIn C.K mainGlobals x = some none) (hv : bootBuiltins x = some v) (r : VR C.h₀ v y) (h : Q y σ)
    (hn : x ≠ "__name__") (hg : env.globals = mainGlobals) (hb : env.builtins = builtinsNs) (hd : (x == ("__debug__" : Str)) = false) : Ev C A env (.Name x pos) ρ σ Q X := by
  intro s S F
  refine Calls.Name_function_global F.fn hk (Calls.loadGlobal_builtin (mg := C.mg) (mb := C.mb) ?_ (mg_none_of C.KX C.hg e) ?_ ((C.blt x hn).trans hv) (EP.pure S h (r.base S))) hd
  · rw [hg]; exact C.hg.keeps S.base
  · rw [hb]; exact C.hb.keeps S.base

/- calls -/
/-- f may be called: its keeper is plain wherever the base stands -/
def Kp (C : Cx) (f : Value) : Prop := ∀ h : Heap, (∀ b o, C.h₀.get? b = some o → h.get? b = some o) → ∃ k, (k = Keeper.frame ∨ k = Keeper.machine ∨ k = Keeper.boundFrame) ∧ Looks C.M h (keeperOf f) k
theorem Kp.ref {f : Value} (e : keepIn C.K f = true) : Kp C f := fun h k => keeps_K e h fun a o q => k _ _ (C.KX a o q)
theorem Kp.blt {i : String} : Kp C (.builtin i) := fun h k => ⟨.machine, .inr (.inl rfl), .now⟩
theorem Kp.typ {i : String} : Kp C (.type i) := fun h k => ⟨.machine, .inr (.inl rfl), .now⟩

theorem evalArgs_sp {M : Model} {E : XP} {f : Value} {Q : Args → Shared → Prop} : ∀ {trees : List (Bool × Sem Value)}, trees.any (·.1) = false → wpAny M A (spliced trees) (fun vs s' => Q ⟨vs, []⟩ s') E s → wpAny M A (evalArgs f true trees []) Q E s
  | [], _, h => by
    unfold evalArgs
    show wpAny M A (spliced [] >>= _) Q E s
    refine wpAny_bind (wpAny_mono h (fun vs s' h' => ?_) fun _ _ x => x)
    refine wpAny_holding ?_
    exact wpAny_bind (wpAny_pure (wpAny_bind (wpAny_pure (wpAny_pure h'))))
  | (false, x) :: rest, _, h => Calls.evalArgs_plain h
  | (true, x) :: rest, e, _ => by simp at e

theorem callWith_mine {pos : Pos} {f : Value} {first : List Value} {fx : List V} {args : List Expr} {Q : V → Store → Prop} (kp : Kp C f) (S : St C σ s) (F : Fm C σ s.heap env ρ) (rf : VRs s.heap first fx)
    (h : Ags C A env pos args ρ σ (fun xs σ1 => CallWP C A f (fx ++ xs) σ1 Q X) X)
    (he : (backTo pos (starEach args env)).any (·.1) = false) :
    wpAny C.M A (callWith pos f first (backTo pos (starEach args env)) []) (EP C σ s.heap Q) X s := by
  refine callWith_of (P := fun h => ∀ b o, C.h₀.get? b = some o → h.get? b = some o) (by rw [he]; rfl) kp ?_
  refine evalArgs_sp he (wpAny_mono (h s S F) ?_ fun _ _ z => z)
  rintro vs s1 ⟨xs, σ1, q, r1, S1, e1⟩
  exact ⟨S1.base, wpAny_mono (q s1 _ S1 ((rf.mono e1.tup).append r1)) (fun _ _ z => z.after e1) fun _ _ z => z⟩

/- attributes of own instances -/
theorem PR.find {h : Heap} {K : Type} [DecidableEq K] {x : K} {y : V} : ∀ {kvs : List (K × Value)} {es : List (K × V)}, PR h kvs es → (es.find? fun p => decide (p.1 = x)).map (·.2) = some y → ∃ v, (kvs.find? fun p => decide (p.1 = x)).map (·.2) = some v ∧ VR h v y
  | _, _, .nil, e => by simp at e
  | _, _, .cons (k := k) r rs, e => by
    by_cases q : k = x
    · subst q
      simp only [List.find?_cons, decide_true, Option.map_some, Option.some.injEq] at e ⊢
      subst e
      exact ⟨_, rfl, r⟩
    · simp only [List.find?_cons, q, decide_false] at e ⊢
      exact PR.find rs e
def sget (es : List (Str × V)) (x : Str) : Option V := (es.find? fun p => decide (p.1 = x)).map (·.2)

end

end Mine

set_option autoImplicit false
set_option linter.unusedVariables false
namespace Mine
open PySem PySem.W

/-- str-keyed store -/
def sput : List (Str × V) → Str → V → List (Str × V)
  | [], x, v => [(x, v)]
  | (y, u) :: r, x, v => if x = y then (x, v) :: r else (y, u) :: sput r x v

section
variable {C : Cx} {A : Around} {env : Env} {ρ : Rho} {σ : Store} {X : XP} {s : Shared}

theorem PR.length {K : Type} {h : Heap} : ∀ {a : List (K × Value)} {b : List (K × V)}, PR h a b → a.length = b.length
  | _, _, .nil => rfl
  | _, _, .cons _ y => congrArg (· + 1) (PR.length y)
theorem stored_cons {K : Type} [DecidableEq K] {k x : K} {u v : Value} {r : List (K × Value)} (hn : (((k, u) :: r).map (·.1)).Nodup) :
    stored ((k, u) :: r) x v = if x = k then (x, v) :: r else (k, u) :: stored r x v := by
  by_cases q : x = k
  · subst q
    have : x ∉ r.map (·.1) := (List.nodup_cons.mp hn).1
    simp only [stored, List.any_cons, decide_true, Bool.true_or, if_true, List.map_cons]
    rw [map_store_of_not_mem r x v this]
  · have q' : ¬ k = x := fun e => q e.symm
    simp only [stored, List.any_cons, q', decide_false, Bool.false_or, List.map_cons, if_false, q]
    split <;> rfl

theorem PR.stored {h : Heap} {x : Str} {v : Value} {y : V} (r : VR h v y) : ∀ {kvs : List (Str × Value)} {es : List (Str × V)}, PR h kvs es → (kvs.map (·.1)).Nodup → PR h (stored kvs x v) (sput es x y)
  | _, _, .nil, _ => by
    show PR h (PySem.stored [] x v) [(x, y)]
    simp only [PySem.stored, List.any_nil, Bool.false_eq_true, if_false, List.nil_append]
    exact .cons r .nil
  | _, _, .cons (k := k) a b, hn => by
    rw [stored_cons hn]
    unfold sput
    by_cases q : x = k
    · rw [if_pos q, if_pos q]; exact .cons r b
    · rw [if_neg q, if_neg q]; exact .cons a (PR.stored r b (List.nodup_cons.mp hn).2)

/- a method of an own object -/

end

end Mine

set_option autoImplicit false
set_option linter.unusedVariables false
namespace Mine
open PySem PySem.W

/-- an iterator: `ow` are its own objects, `J k` its state ahead of its k-th item -/
structure Itr (C : Cx) (A : Around) (target : Expr) (it : Value) (ow : Addr → Prop) (J : Nat → Heap → Prop) (ok : Store → Prop) (xs : List V) : Prop where
  frame : ∀ k h h', J k h → TupKeep h h' → (∀ b o, ow b → h.get? b = some o → h'.get? b = some o) → J k h'
  notTup : ∀ k h b o, J k h → ow b → h.get? b = some o → ¬ Imm o
  there : ∀ k h b, J k h → ow b → ∃ o, h.get? b = some o
  more : ∀ k σ s x (Q : Option Value → Shared → Prop) (X : XP), St C σ s → ok σ → J k s.heap → xs[k]? = some x → (∀ b, ow b → σ b = none) →
    (∀ v h' tk, VR h' v x → (∀ b o, ¬ ow b → s.heap.get? b = some o → h'.get? b = some o) → (∀ b o, ow b → h'.get? b = some o → ¬ Imm o) →
      (∀ (Q' : Unit → Shared → Prop) (X' : XP), (∀ h'' tk', J (k + 1) h'' → (∀ b o, ¬ ow b → h'.get? b = some o → h''.get? b = some o) → Q' () { s with heap := h'', toks := tk' }) →
        wpAny C.M A (letOwnedTupleGo target it v) Q' X' { s with heap := h', toks := tk }) → Q (some v) { s with heap := h', toks := tk }) → wpAny C.M A (pyNext it) Q X s
  self : ∀ k (s : Shared) (Q : Value → Shared → Prop) (X : XP), J k s.heap → Q it s → wpAny C.M A (pyIter it) Q X s
  done : ∀ k σ s (Q : Option Value → Shared → Prop) (X : XP), St C σ s → ok σ → J k s.heap → xs[k]? = none → (∀ b, ow b → σ b = none) →
    (∀ h' tk, (∀ b o, ¬ ow b → s.heap.get? b = some o → h'.get? b = some o) → Q none { s with heap := h', toks := tk }) → wpAny C.M A (pyNext it) Q X s

section
variable {C : Cx} {A : Around} {env : Env} {ρ : Rho} {σ : Store} {X : XP} {s : Shared}

theorem tk_ow {h h' : Heap} {ow : Addr → Prop} (k : ∀ b o, ¬ ow b → h.get? b = some o → h'.get? b = some o) (nt : ∀ b o, ow b → h.get? b = some o → ¬ Imm o) : TupKeep h h' :=
  fun a o i e => k a _ (fun q => nt a o q e i) e
theorem St.ow {h' : Heap} {t : Nat} {ow : Addr → Prop} (S : St C σ s) (k : ∀ b o, ¬ ow b → s.heap.get? b = some o → h'.get? b = some o) (nt : ∀ b o, ow b → s.heap.get? b = some o → ¬ Imm o)
    (no : ∀ b, ow b → σ b = none) (nb : ∀ b, ow b → C.h₀.get? b = none) : St C σ { s with heap := h', toks := t } :=
  ⟨fun b o e => k b o (fun q => by rw [nb b q] at e; cases e) (S.base b o e), fun a o e => (S.rep a o e).at (fun x hx => k a x (fun q => by rw [no a q] at e; cases e) hx) (tk_ow k nt), S.above, S.gens, S.os⟩
theorem Fm.ow {h h' : Heap} {ow : Addr → Prop} (F : Fm C σ h env ρ) (k : ∀ b o, ¬ ow b → h.get? b = some o → h'.get? b = some o) (nt : ∀ b o, ow b → h.get? b = some o → ¬ Imm o) (no : ∀ b, ow b → ¬ Own env b) : Fm C σ h' env ρ := by
  obtain ⟨f1, ⟨m, hm, f2⟩, f3, f5, f6, f7, f8⟩ := F
  have tk := tk_ow k nt
  obtain ⟨o, es, ep, ho, rest⟩ := hm
  refine ⟨f1, ⟨m, ⟨o, es, ep, k _ _ (fun q => no _ q (.inl rfl)) ho, rest⟩, fun x v hx hv => ?_⟩, f3, f5, fun x c hc => ?_, f7, f8⟩
  · obtain ⟨u, a, b⟩ := f2 x v hx hv
    exact ⟨u, a, b.mono tk⟩
  · obtain ⟨ov, a, b⟩ := f6 x c hc
    refine ⟨ov, isCell_at a fun o e => k _ _ (fun q => no _ q (.inr ⟨x, hc⟩)) e, fun v hv => ?_⟩
    obtain ⟨u, p, q⟩ := b v hv
    exact ⟨u, p, q.mono tk⟩
theorem EvoF.ow {σ0 : Store} {h0 h h' : Heap} {ow : Addr → Prop} (e : EvoF env σ0 h0 σ h) (k : ∀ b o, ¬ ow b → h.get? b = some o → h'.get? b = some o) (fr : ∀ b, ow b → h0.get? b = none) : EvoF env σ0 h0 σ h' := by
  refine ⟨fun b o q n w => k b o (fun z => by rw [fr b z] at q; cases q) (e.keep b o q n w), e.dom, e.mono, fun a i n q => k a _ (fun z => by rw [fr a z] at q; cases q) (e.tup a i n q), fun b o q w => ?_⟩
  obtain ⟨o', q'⟩ := e.there b o q w
  exact ⟨o', k b o' (fun z => by rw [fr b z] at q; cases q) q'⟩

/-- the turns of a for -/
theorem for_turns {target : Expr} {it : Value} {body : List Stmt} {ow : Addr → Prop} {J : Nat → Heap → Prop} {ok : Store → Prop} {xs : List V} (W : Itr C A target it ow J ok xs) {σ0 : Store} {h0 : Heap}
    (I : Nat → Rho → Store → Prop) (Q : FV → Rho → Store → Prop)
    (fr : ∀ b, ow b → h0.get? b = none) (fro : ∀ b, ow b → ¬ Own env b) (frb : ∀ b, ow b → C.h₀.get? b = none)
    (turn : ∀ k ρ σ, I k ρ σ → ok σ ∧ match xs[k]? with
      | none => Q .next ρ σ
      | some x => Asg C A env target x ρ σ (fun ρ1 σ1 => Exs C A env body ρ1 σ1 (fun g ρ2 σ2 => match g with
          | .next | .cont => I (k + 1) ρ2 σ2
          | .brk => Q .next ρ2 σ2
          | .ret v => Q (.ret v) ρ2 σ2) (fun _ _ => False)) (fun _ _ => False)) :
    ∀ m k ρ σ s, xs.length - k = m → I k ρ σ → St C σ s → Fm C σ s.heap env ρ → EvoF env σ0 h0 σ s.heap → J k s.heap → (∀ b, ow b → σ b = none) →
      codeAny C.M A (.forLoop target it body [] env) (fun r s' => match r with | .ok f => SP C env σ0 h0 Q f s' | .error _ => False) s := by
  intro m
  induction m using Nat.strongRecOn with
  | ind m ih =>
  intro k ρ σ s hm hI S F e0 hJ no
  obtain ⟨hok, tn⟩ := turn k ρ σ hI
  refine codeAny_of_tree ?_
  show wpAny C.M _ ((forTurn target it body [] env).onRaise (fun x => do noteFrame x env; theTreesLotGoes x)) _ _ s
  rw [show A.under (.forLoop target it body [] env) = A from Around.under_of_weight (by rfl)]
  refine wpAny_noted ?_
  unfold forTurn
  refine wpAny_bind (wpAny_standAt (wpAny_bind (wpAny_onRaise ?_)))
  have nt : ∀ b o, ow b → s.heap.get? b = some o → ¬ Imm o := fun b o q => W.notTup k _ b o hJ q
  cases hx : xs[k]? with
  | none =>
    rw [hx] at tn
    refine W.done k σ s _ _ S hok hJ hx no fun h' tk kp => ?_
    refine wpAny_pure ⟨rfl, codeAny_of_tree ?_⟩
    show wpAny C.M _ (do return Fin.done (← (execs [] env).onRaise (fun x => do noteFrame x env; theTreesLotGoes x))) _ _ _
    refine wpAny_bind (wpAny_noted (wpAny_execs_nil (wpAny_pure ?_)))
    exact ⟨.next, ρ, σ, tn, .next, S.ow kp nt no frb, F.ow kp nt fro, e0.ow kp fr⟩
  | some x =>
    rw [hx] at tn
    have hk : k < xs.length := by
      have := List.getElem?_eq_some_iff.mp hx
      exact this.1
    refine W.more k σ s x _ _ S hok hJ hx no fun v h' tk rv kp nt' go => ?_
    refine wpAny_bind (go _ _ fun h'' tk' J' kp' => ?_)
    have kp2 : ∀ b o, ¬ ow b → s.heap.get? b = some o → h''.get? b = some o := fun b o q e => kp' b o q (kp b o q e)
    have S2 : St C σ { s with heap := h'', toks := tk' } := S.ow kp2 nt no frb
    have F2 : Fm C σ h'' env ρ := F.ow kp2 nt fro
    have rv2 : VR h'' v x := rv.mono (tk_ow kp' nt')
    refine wpAny_bind (wpAny_mono (tn { s with heap := h'', toks := tk' } v S2 F2 rv2) ?_ fun _ _ z => z.elim)
    rintro _ s3 ⟨ρ1, σ1, q1, S3, F3, e3⟩
    refine wpAny_bind (wpAny_mono (q1 s3 S3 F3) ?_ fun _ _ z => z.elim)
    rintro f s4 ⟨g, ρ2, σ2, q2, r2, S4, F4, e4⟩
    have e04 : EvoF env σ0 h0 σ2 s4.heap := ((e0.ow kp2 fr).trans e3).trans e4
    have al2 : ∀ b, ow b → ∃ o, h''.get? b = some o := fun b q => W.there _ _ b J' q
    have e24 : EvoF env σ h'' σ2 s4.heap := e3.trans e4
    have kpo : ∀ b o, ow b → h''.get? b = some o → s4.heap.get? b = some o := fun b o q e => e24.keep b o e (no b q) (fro b q)
    have no4 : ∀ b, ow b → σ2 b = none := fun b q => by
      cases z : σ2 b with
      | none => rfl
      | some o =>
        rcases e24.dom b o z with ⟨o', e'⟩ | e'
        · rw [no b q] at e'; cases e'
        · obtain ⟨o', e2⟩ := al2 b q
          rw [e2] at e'; cases e'
    have again' : I (k + 1) ρ2 σ2 → codeAny C.M A (.forLoop target it body [] env) (fun r s' => match r with | .ok f => SP C env σ0 h0 Q f s' | .error _ => False) s4 := fun hI' =>
      ih (xs.length - (k + 1)) (by omega) (k + 1) ρ2 σ2 s4 rfl hI' S4 F4 e04 (W.frame _ _ _ J' e24.tup kpo) no4
    cases r2 with
    | next => exact wpAny_pure ⟨rfl, again' q2⟩
    | cont => exact wpAny_pure ⟨rfl, again' q2⟩
    | brk => exact wpAny_pure ⟨.next, ρ2, σ2, q2, .next, S4, F4, e04⟩
    | ret r => exact wpAny_pure ⟨_, ρ2, σ2, q2, .ret r, S4, F4, e04⟩

/-- the turns, item by item -/
def ForL (C : Cx) (A : Around) (env : Env) (target : Expr) (body : List Stmt) (ok : Store → Prop) (Q : FV → Rho → Store → Prop) : List V → Rho → Store → Prop
  | [], ρ, σ => Q .next ρ σ
  | x :: xs, ρ, σ => Asg C A env target x ρ σ (fun ρ1 σ1 => Exs C A env body ρ1 σ1 (fun g ρ2 σ2 => match g with
      | .next | .cont => ok σ2 ∧ ForL C A env target body ok Q xs ρ2 σ2
      | .brk => Q .next ρ2 σ2
      | .ret v => Q (.ret v) ρ2 σ2) (fun _ _ => False)) (fun _ _ => False)

theorem for_run {target : Expr} {it : Value} {body : List Stmt} {ow : Addr → Prop} {J : Nat → Heap → Prop} {ok : Store → Prop} {xs : List V} (W : Itr C A target it ow J ok xs) {σ0 : Store} {h0 : Heap} {Q : FV → Rho → Store → Prop}
    (fr : ∀ b, ow b → h0.get? b = none) (fro : ∀ b, ow b → ¬ Own env b) (frb : ∀ b, ow b → C.h₀.get? b = none) (no : ∀ b, ow b → σ b = none)
    (S : St C σ s) (F : Fm C σ s.heap env ρ) (e0 : EvoF env σ0 h0 σ s.heap) (hJ : J 0 s.heap) (hok : ok σ) (h : ForL C A env target body ok Q xs ρ σ) :
    codeAny C.M A (.forLoop target it body [] env) (fun r s' => match r with | .ok f => SP C env σ0 h0 Q f s' | .error _ => False) s := by
  refine for_turns W (fun k ρ σ => ok σ ∧ ForL C A env target body ok Q (xs.drop k) ρ σ) Q fr fro frb (fun k ρ σ hI => ⟨hI.1, ?_⟩) _ 0 ρ σ s rfl ⟨hok, by simpa using h⟩ S F e0 hJ no
  cases hx : xs[k]? with
  | none =>
    have : xs.drop k = [] := List.drop_eq_nil_of_le (List.getElem?_eq_none_iff.mp hx)
    have h2 := hI.2
    rw [this] at h2
    exact h2
  | some x =>
    obtain ⟨hk, rfl⟩ := List.getElem?_eq_some_iff.mp hx
    have h2 := hI.2
    rw [List.drop_eq_getElem_cons hk] at h2
    exact h2

/-- no tuple of its own to let go -/
theorem letGo_plain {target : Expr} {it : Addr} {v : Value} {o : Obj} {T : String} {Q : Unit → Shared → Prop} {E : XP} (e : s.heap.get? it = some o) (hc : o.cls = .type T)
    (hT : ["enumerate", "zip", "dict_itemiterator", "dict_reverseitemiterator", "odict_iterator", "itertools.zip_longest", "itertools.pairwise"].contains T = false) (h : Q () s) : wpAny C.M A (letOwnedTupleGo target (.ref it) v) Q E s := by
  have key : ∀ (v : Value), wpAny C.M A (do
      let (.ref r, .ref a) := ((Value.ref it, v) : Value × Value) | return
      let o ← load r
      match o.cls, o.data with
      | .type n, .fields vs =>
        if ["enumerate", "zip", "dict_itemiterator", "dict_reverseitemiterator", "odict_iterator", "itertools.zip_longest", "itertools.pairwise"].contains n && vs[0]? == some (rawInt a) then
          rule "for.unpacks-the-owned-tuple"
          updateField r 0 .none
      | _, _ => pure ()) Q E s := fun v => by
    cases v <;> try exact wpAny_pure h
    refine wpAny_bind (wpAny_load e ?_)
    rw [hc]
    cases o.data <;> try exact wpAny_pure h
    simp only [hT, Bool.false_and, Bool.false_eq_true, if_false]
    exact wpAny_pure h
  cases target <;> first | exact wpAny_pure h | exact key v

/- lists -/
theorem Itr.list {target : Expr} {it l : Addr} {xs : List V} (hh : A.handled = none) (hne : it ≠ l) :
    Itr C A target (.ref it) (fun b => b = it) (fun k h => h.IsListIter it l k) (fun σ => LstAt C σ l xs) xs where
  frame := fun k h h' ⟨o, e, r⟩ _ kp => ⟨o, kp it o rfl e, r⟩
  notTup := fun k h b o' ⟨o, e, c, _⟩ q z => by subst q; rw [e] at z; cases z; exact Imm.not (by rw [c]; simp) (by rw [c]; simp) (by rw [c]; simp)
  there := fun k h b ⟨o, e, _⟩ q => by subst q; exact ⟨o, e⟩
  more := fun k σ s x Q X S hok hJ hx no hQ => by
    obtain ⟨items, hl, hr⟩ := hok.raw S
    obtain ⟨u, hu, ru⟩ := hr.get hx
    refine wpAny_pyNext_list_item hJ hl (by simpa using hu) fun h' J' sb => ?_
    have kp : ∀ b o, ¬ b = it → s.heap.get? b = some o → h'.get? b = some o := fun b o q e => (sb.2 b q).trans e
    have tk : TupKeep s.heap h' := tk_ow (ow := fun b => b = it) kp fun b o' q => by
      subst q
      obtain ⟨o, e, c, _⟩ := hJ
      intro z; rw [e] at z; cases z; exact Imm.not (by rw [c]; simp) (by rw [c]; simp) (by rw [c]; simp)
    refine hQ u h' s.toks (ru.mono tk) kp (fun b o' q z => ?_) (fun Q' X' hq => by
      obtain ⟨o, e, c, _⟩ := id J'
      exact letGo_plain (s := { s with heap := h' }) e c (by decide) (hq h' s.toks J' fun _ _ _ e => e))
    subst q
    obtain ⟨o, e, c, _⟩ := J'
    rw [e] at z; cases z; exact Imm.not (by rw [c]; simp) (by rw [c]; simp) (by rw [c]; simp)
  self := fun k s Q X hJ hq => wpAny_pyIter_listiter hJ hq
  done := fun k σ s Q X S hok hJ hx no hQ => by
    obtain ⟨items, hl, hr⟩ := hok.raw S
    have hn : items[k]? = none := by
      have h1 := List.getElem?_eq_none_iff.mp hx
      have h2 := hr.length
      simp only [Array.length_toList] at h2
      exact Array.getElem?_eq_none_iff.mpr (by omega)
    exact wpAny_pyNext_list_end hh hJ hl hn fun h' kp => hQ h' s.toks fun b o q e => kp b o q e

end

end Mine

set_option autoImplicit false
set_option linter.unusedVariables false
namespace Mine
open PySem PySem.W

section
variable {C : Cx} {A : Around} {env : Env} {ρ : Rho} {σ : Store} {X : XP} {s : Shared}

theorem Evo.ow {σ0 : Store} {h0 h h' : Heap} {ow : Addr → Prop} (e : Evo σ0 h0 σ h) (k : ∀ b o, ¬ ow b → h.get? b = some o → h'.get? b = some o) (fr : ∀ b, ow b → h0.get? b = none) : Evo σ0 h0 σ h' :=
  ⟨fun b o q n => k b o (fun z => by rw [fr b z] at q; cases q) (e.keep b o q n), e.dom, e.mono, fun a i n q => k a _ (fun z => by rw [fr a z] at q; cases q) (e.tup a i n q)⟩

theorem Fm.less {h : Heap} {ρ' : Rho} (F : Fm C σ h env ρ) (k : ∀ x v, ρ'.get x = some v → ρ.get x = some v) : Fm C σ h env ρ' := by
  obtain ⟨f1, ⟨m, hm, f2⟩, f3, f5, f6, f7, f8⟩ := F
  refine ⟨f1, ⟨m, hm, fun x v hx hv => f2 x v hx (k x v hv)⟩, f3, f5, fun x c hc => ?_, f7, f8⟩
  obtain ⟨ov, a, b⟩ := f6 x c hc
  exact ⟨ov, a, fun v hv => b v (k x v hv)⟩

/-- the tests of a comprehension: none, or one -/
def Ifs (C : Cx) (A : Around) (env : Env) (ifs : List Expr) (ρ : Rho) (σ : Store) (Q : Bool → Store → Prop) (X : XP) : Prop :=
  match ifs with
  | [] => Q true σ
  | [c] => Tst C A env c ρ σ Q X
  | _ => False
theorem Ifs.run {ifs : List Expr} {Q : Bool → Store → Prop} (h : Ifs C A env ifs ρ σ Q X) (S : St C σ s) (F : Fm C σ s.heap env ρ) :
    wpAny C.M A (forIn ifs true fun c r => if r = true then do let ok ← isTrue c env (eval c env); pure (ForInStep.yield ok) else pure (ForInStep.yield r)) (TP C σ s.heap Q) X s := by
  match ifs, h with
  | [], h => exact wpAny_tests_nil (TP.pure S h)
  | [c], h => exact wpAny_tests_one (h s S F)

/-- the turns of a comprehension, item by item -/
def CmpL (C : Cx) (A : Around) (env : Env) (x : Str) (ifs : List Expr) (elt : Expr) (ok : Store → Prop) (ρ : Rho) (R : List V → Store → Prop) : List V → List V → Store → Prop
  | [], out, σ => R out σ
  | y :: ys, out, σ => Ifs C A env ifs (ρ.put x y) σ (fun b σ1 =>
      if b then Ev C A env elt (ρ.put x y) σ1 (fun z σ2 => out.length ≤ sizeLine ∧ ok σ2 ∧ CmpL C A env x ifs elt ok ρ R ys (out ++ [z]) σ2) (fun _ _ => False)
      else ok σ1 ∧ CmpL C A env x ifs elt ok ρ R ys out σ1) (fun _ _ => False)

theorem comp_turns {x : Str} {px pos : Pos} {elt iter : Expr} {ifs : List Expr} {scope : Scope} {it : Value} {ow : Addr → Prop} {J : Nat → Heap → Prop} {ok : Store → Prop} {xs : List V} {acc : Addr}
    (W : Itr C A (.Name x px) it ow J ok xs) {σ0 : Store} {h0 : Heap} {R : List V → Store → Prop} {RR : Result → Shared → Prop}
    (hx : env.kindOf x = some .local) (hxc : env.cells.lookup x = none) (hxr : ρ.get x = none)
    (fr : ∀ b, ow b → h0.get? b = none) (fra : h0.get? acc = none) (frl : h0.get? env.locals = none) (frb : ∀ b, ow b → C.h₀.get? b = none) (frba : C.h₀.get? acc = none)
    (nac : ¬ ow acc) (nal : acc ≠ env.locals) (nol : ¬ ow env.locals) (noo : ∀ b, ow b → ¬ Own env b) (nao : ¬ Own env acc)
    (hR : ∀ out σ s items, R out σ → St C σ s → Evo σ0 h0 σ s.heap → s.heap.PlainList acc items → VRs s.heap items.toList out → σ acc = none → (∃ m, s.heap.Ns env.locals m) → σ env.locals = none → RR (.ok .next) s) :
    ∀ m k out σ s items, xs.length - k = m → ok σ → CmpL C A env x ifs elt ok ρ R (xs.drop k) out σ → St C σ s → Fm C σ s.heap env ρ → Evo σ0 h0 σ s.heap → J k s.heap → (∀ b, ow b → σ b = none) →
      s.heap.PlainList acc items → VRs s.heap items.toList out → σ acc = none →
      codeAny C.M A (.compLoop (.ListComp elt [⟨.Name x px, iter, ifs, 0⟩] scope pos) 0 it (.ref acc) env) RR s := by
  intro m
  induction m using Nat.strongRecOn with
  | ind m ih =>
  intro k out σ s items hm hok hL S F e0 hJ no pl rl na
  have nt : ∀ b o, ow b → s.heap.get? b = some o → ¬ Imm o := fun b o q => W.notTup k _ b o hJ q
  have dn : ∀ (σ' : Store) (h h' : Heap), Evo σ h σ' h' → ∀ b o, h.get? b = some o → σ b = none → σ' b = none := fun σ' h h' e b o q n => by
    cases z : σ' b with
    | none => rfl
    | some o2 =>
      rcases e.dom b o2 z with ⟨o', e'⟩ | e'
      · rw [n] at e'; cases e'
      · rw [q] at e'; cases e'
  refine codeAny_of_tree ?_
  show wpAny C.M _ ((compTurn (.ListComp elt [⟨.Name x px, iter, ifs, 0⟩] scope pos) 0 it (.ref acc) env).onRaise (fun x => do noteFrame x env; theTreesLotGoes x)) _ _ s
  rw [show A.under (.compLoop (.ListComp elt [⟨.Name x px, iter, ifs, 0⟩] scope pos) 0 it (.ref acc) env) = A from Around.under_of_weight (by rfl)]
  refine wpAny_noted ?_
  rw [compTurn_list]
  refine wpAny_bind (wpAny_standAt (wpAny_bind ?_))
  cases hxk : xs[k]? with
  | none =>
    have hd : xs.drop k = [] := List.drop_eq_nil_of_le (List.getElem?_eq_none_iff.mp hxk)
    rw [hd] at hL
    refine W.done k σ s _ _ S hok hJ hxk no fun h' tk kp => ?_
    refine wpAny_pure ?_
    have S' : St C σ { s with heap := h', toks := tk } := S.ow kp nt no frb
    obtain ⟨m', hm', _⟩ := (F.ow kp nt noo).loc
    exact hR out σ _ items hL S' (e0.ow kp fr) (pl.at fun o e => kp _ _ nac e) (rl.mono (tk_ow kp nt)) na ⟨m', hm'⟩ F.locs
  | some y =>
    obtain ⟨hk, rfl⟩ := List.getElem?_eq_some_iff.mp hxk
    rw [List.drop_eq_getElem_cons hk] at hL
    refine W.more k σ s _ _ _ S hok hJ hxk no fun v h' tk rv kp nt' go => ?_
    refine wpAny_bind (go _ _ fun h'' tk' J' kp' => ?_)
    have kp2 : ∀ b o, ¬ ow b → s.heap.get? b = some o → h''.get? b = some o := fun b o q e => kp' b o q (kp b o q e)
    have S2 : St C σ { s with heap := h'', toks := tk' } := S.ow kp2 nt no frb
    have F2 : Fm C σ h'' env ρ := F.ow kp2 nt noo
    have rv2 : VR h'' v xs[k] := rv.mono (tk_ow kp' nt')
    have e2 : Evo σ0 h0 σ h'' := e0.ow kp2 fr
    have pl2 : h''.PlainList acc items := pl.at fun o e => kp2 _ _ nac e
    have rl2 : VRs h'' items.toList out := rl.mono (tk_ow kp2 nt)
    obtain ⟨m0, hm0, fm0⟩ := F2.loc
    refine wpAny_bind (wpAny_assign_Name (wpAny_storeName_local (s := { s with heap := h'', toks := tk' }) hx hm0 (fun h3 hn3 hs3 => ?_) (by rw [F2.fn]; rfl)))
    obtain ⟨S3, F3, e3⟩ := Fm.storeLocal (h := h'') (t := tk' + 1) (s := { s with heap := h'', toks := tk' }) S2 F2 hx hm0 fm0 hn3 hs3 rv2 hxc
    have e03 : Evo σ0 h0 σ h3 := e2.ow (ow := fun b => b = env.locals) (fun b o q e => (hs3.2 b q).trans e) (fun b q => q ▸ frl)
    have J3 : J (k + 1) h3 := W.frame _ _ _ J' e3.tup fun b o q e => (hs3.2 b fun z => nol (z ▸ q)).trans e
    have pl3 : h3.PlainList acc items := pl2.at fun o e => (hs3.2 _ nal).trans e
    have rl3 : VRs h3 items.toList out := rl2.mono e3.tup
    have nx : ∀ (s4 : Shared) (σ4 : Store) (out' : List V) (items' : Array Value), ok σ4 → CmpL C A env x ifs elt ok ρ R (xs.drop (k + 1)) out' σ4 → St C σ4 s4 → Fm C σ4 s4.heap env (ρ.put x xs[k]) → Evo σ0 h0 σ4 s4.heap → J (k + 1) s4.heap →
        (∀ b, ow b → σ4 b = none) → s4.heap.PlainList acc items' → VRs s4.heap items'.toList out' → σ4 acc = none →
        codeAny C.M A (.compLoop (.ListComp elt [⟨.Name x px, iter, ifs, 0⟩] scope pos) 0 it (.ref acc) env) RR s4 := fun s4 σ4 out' items' hok4 hL4 S4 F4 e4 J4 no4 pl4 rl4 na4 =>
      ih (xs.length - (k + 1)) (by omega) (k + 1) out' σ4 s4 items' rfl hok4 hL4 S4 (F4.less fun z u hz => by
        rw [Rho.get_put, if_neg (fun q => by rw [q, hxr] at hz; cases hz)]; exact hz) e4 J4 no4 pl4 rl4 na4
    refine wpAny_bind (wpAny_mono (Ifs.run hL S3 F3) ?_ fun _ _ z => z.elim)
    rintro b s4 ⟨σ4, q4, S4, e4⟩
    have no4 : ∀ b, ow b → σ4 b = none := fun b q => by
      obtain ⟨o', eo⟩ := W.there _ _ b J3 q
      exact dn σ4 _ _ e4 b o' eo (no b q)
    have na4 : σ4 acc = none := by obtain ⟨n, eo⟩ := pl3; exact dn σ4 _ _ e4 acc _ eo na
    have J4 : J (k + 1) s4.heap := W.frame _ _ _ J3 e4.tup fun b o q e => e4.keep b o e (no b q)
    have pl4 : s4.heap.PlainList acc items := pl3.at fun o e => e4.keep _ _ e na
    have rl4 := rl3.mono e4.tup
    have F4 := F3.evo e4
    cases b with
    | false =>
      simp only [Bool.false_eq_true, if_false] at q4 ⊢
      exact wpAny_pure ⟨rfl, nx s4 σ4 out items q4.1 q4.2 S4 F4 (e03.trans e4) J4 no4 pl4 rl4 na4⟩
    | true =>
      simp only [if_true] at q4 ⊢
      refine wpAny_bind (wpAny_bind (wpAny_mono (q4 s4 S4 F4) ?_ fun _ _ z => z.elim))
      rintro u s5 ⟨z, σ5, ⟨hz, hok5, q5⟩, r5, S5, e5⟩
      have dn5 : ∀ b o, s4.heap.get? b = some o → σ4 b = none → σ5 b = none := fun b o q n => by
        cases z : σ5 b with
        | none => rfl
        | some o2 =>
          rcases e5.dom b o2 z with ⟨o', e'⟩ | e'
          · rw [n] at e'; cases e'
          · rw [q] at e'; cases e'
      have no5 : ∀ b, ow b → σ5 b = none := fun b q => by
        obtain ⟨o', eo⟩ := W.there _ _ b J4 q
        exact dn5 b o' eo (no4 b q)
      have na5 : σ5 acc = none := by obtain ⟨n, eo⟩ := pl4; exact dn5 acc _ eo na4
      have J5 : J (k + 1) s5.heap := W.frame _ _ _ J4 e5.tup fun b o q e => e5.keep b o e (no4 b q)
      have pl5 : s5.heap.PlainList acc items := pl4.at fun o e => e5.keep _ _ e na4
      have rl5 := rl4.mono e5.tup
      have F5 := F4.evo e5
      refine wpAny_bind (wpAny_list_append_plain pl5 (fun h6 pl6 sb6 => ?_) (by have := rl5.length; simp only [Array.length_toList] at this; omega))
      have nt6 : ∀ b o, b = acc → s5.heap.get? b = some o → ¬ Imm o := fun b o q => by
        subst q
        obtain ⟨n, eo⟩ := pl5
        intro z; rw [eo] at z; cases z; exact Imm.not (by simp) (by simp) (by simp)
      have kp6 : ∀ b o, ¬ b = acc → s5.heap.get? b = some o → h6.get? b = some o := fun b o q e => (sb6.2 b q).trans e
      have S6 : St C σ5 { s5 with heap := h6, toks := s5.toks } := S5.ow (ow := fun b => b = acc) kp6 nt6 (fun b q => q ▸ na5) (fun b q => q ▸ frba)
      have F6 : Fm C σ5 h6 env (ρ.put x xs[k]) := F5.ow (ow := fun b => b = acc) kp6 nt6 (fun b q => q ▸ nao)
      have tk6 : TupKeep s5.heap h6 := tk_ow (ow := fun b => b = acc) kp6 nt6
      refine wpAny_pure (wpAny_pure ⟨rfl, nx _ σ5 (out ++ [z]) (items.push u) hok5 q5 S6 F6 (((e03.trans e4).trans e5).ow (ow := fun b => b = acc) kp6 (fun b q => q ▸ fra)) ?_ no5 pl6 ?_ na5⟩)
      · exact W.frame _ _ _ J5 tk6 fun b o q e => kp6 b o (fun z => nac (z ▸ q)) e
      · simp only [Array.toList_push]
        exact (rl5.mono tk6).append (.cons (r5.mono tk6) .nil)
end

end Mine

set_option autoImplicit false
set_option linter.unusedVariables false
namespace Mine
open PySem PySem.W

section
variable {C : Cx} {A : Around} {env : Env} {ρ : Rho} {σ : Store} {X : XP} {s : Shared}

/-- what an iterator's making gives -/
def SrcP (C : Cx) (A : Around) (target : Expr) (σ : Store) (h : Heap) (Q : List V → (Store → Prop) → Store → Prop) (it : Value) (s2 : Shared) : Prop :=
  ∃ xs ok σ' ow J, Q xs ok σ' ∧ Itr C A target it ow J ok xs ∧ ok σ' ∧ St C σ' s2 ∧ Evo σ h σ' s2.heap ∧ (∀ b, ow b → h.get? b = none ∧ σ' b = none) ∧ J 0 s2.heap
def Src (C : Cx) (A : Around) (env : Env) (target iter : Expr) (ρ : Rho) (σ : Store) (Q : List V → (Store → Prop) → Store → Prop) (X : XP) : Prop :=
  ∀ s, St C σ s → Fm C σ s.heap env ρ → wpAny C.M A (eval iter env) (fun x s1 => wpAny C.M A (pyIter x) (SrcP C A target σ s.heap Q) X s1) X s

theorem Fm.own_there {h : Heap} (F : Fm C σ h env ρ) {b : Addr} (w : Own env b) : ∃ o, h.get? b = some o := by
  rcases w with rfl | ⟨x, e⟩
  · obtain ⟨m, ⟨o, _, _, ho, _⟩, _⟩ := F.loc
    exact ⟨o, ho⟩
  · obtain ⟨ov, ⟨o, ho, _⟩, _⟩ := F.cell x b e
    exact ⟨o, ho⟩

theorem Ex.for {target iter : Expr} {body : List Stmt} {pos : Pos} {Q : FV → Rho → Store → Prop}
    (h : Src C A env target iter ρ σ (fun xs ok σ1 => ForL C A env target body ok Q xs ρ σ1) X)
    (hs : ∀ x, foldedSetIterable iter env x = pure x := by intro _; kernel_rfl) : Ex C A env (.For target iter body [] pos) ρ σ Q X := by
  intro s S F
  refine wpAny_For (wpAny_mono (h s S F) (fun x s1 h1 => wpAny_mono h1 ?_ fun _ _ z => z) fun _ _ z => z) hs
  rintro it s2 ⟨xs, ok, σ', ow, J, q, W, hok, S2, e2, fr, hJ⟩
  refine codeAny_mono (for_run (σ0 := σ) (h0 := s.heap) W (fun b w => (fr b w).1) (fun b w z => ?_) (fun b w => ?_) (fun b w => (fr b w).2) S2 (F.evo e2) (e2.evoF F.own) hJ hok q) ?_
  · obtain ⟨o, e⟩ := F.own_there z
    rw [(fr b w).1] at e; cases e
  · cases z : C.h₀.get? b with
    | none => rfl
    | some o => have := S.base _ _ z; rw [(fr b w).1] at this; cases this
  · rintro (e | f) s' z
    · exact z.elim
    · exact z

/- sources -/
/-- iterating over a value gives these items -/
def ItV (C : Cx) (A : Around) (target : Expr) (x : V) (σ : Store) (xs : List V) (ok : Store → Prop) : Prop :=
  ok σ ∧ ∀ s v (Q : Value → Shared → Prop) (X : XP), St C σ s → VR s.heap v x → (∀ it ow J h' tk, Itr C A target it ow J ok xs → (∀ b o, s.heap.get? b = some o → h'.get? b = some o) → (∀ b, ow b → s.heap.objs.size ≤ b) → J 0 h' →
    Q it { s with heap := h', toks := tk }) → wpAny C.M A (pyIter v) Q X s

theorem St.fresh' (S : St C σ s) {b : Addr} (hb : s.heap.objs.size ≤ b) : σ b = none := by
  cases q : σ b with
  | none => rfl
  | some o =>
    obtain ⟨y, hy, _⟩ := (S.rep _ _ q).isSome
    exact absurd (Heap.lt_size hy) (Nat.not_lt.mpr hb)
theorem get?_fresh' {h : Heap} {b : Addr} (hb : h.objs.size ≤ b) : h.get? b = none := by
  cases q : h.get? b with
  | none => rfl
  | some o => exact absurd (Heap.lt_size q) (Nat.not_lt.mpr hb)
theorem Evo.fresh {σ' : Store} {h h' : Heap} {b : Addr} (S : St C σ' s) (e : Evo σ h σ' s.heap) (hb : s.heap.objs.size ≤ b) : h.get? b = none := by
  cases q : h.get? b with
  | none => rfl
  | some o =>
    have f := get?_fresh' hb
    cases z : σ b with
    | none => rw [e.keep _ _ q z] at f; cases f
    | some o' =>
      obtain ⟨o'', e''⟩ := e.mono _ _ z
      rw [S.fresh' hb] at e''; cases e''

theorem Src.of {target iter : Expr} {Q : List V → (Store → Prop) → Store → Prop} (h : Ev C A env iter ρ σ (fun x σ1 => ∃ xs ok, ItV C A target x σ1 xs ok ∧ Q xs ok σ1) X) : Src C A env target iter ρ σ Q X := by
  intro s S F
  refine wpAny_mono (h s S F) ?_ fun _ _ z => z
  rintro v s1 ⟨x, σ1, ⟨xs, ok, ⟨hok, hi⟩, q⟩, r1, S1, e1⟩
  refine hi s1 v _ _ S1 r1 fun it ow J h' tk W kp fr hJ => ?_
  exact ⟨xs, ok, σ1, ow, J, q, W, hok, S1.ext kp, e1.trans (.ext kp), fun b w => ⟨Evo.fresh (h' := s1.heap) S1 e1 (fr b w), S1.fresh' (fr b w)⟩, hJ⟩

theorem ItV.list {target : Expr} {l : Addr} {xs : List V} (hh : A.handled = none) (hl : LstAt C σ l xs) : ItV C A target (.ref l) σ xs (fun σ => LstAt C σ l xs) := by
  refine ⟨hl, fun s v Q X S r hQ => ?_⟩
  cases r
  obtain ⟨items, pl, hr⟩ := hl.raw S
  refine wpAny_pyIter_list pl ?_
  have hlt : l < s.heap.objs.size := by obtain ⟨o, e, _⟩ := pl; exact Heap.lt_size e
  exact hQ _ _ _ _ s.toks (Itr.list hh (Nat.ne_of_gt hlt)) (fun b o e => Heap.get?_push_of_some _ e) (fun b w => w ▸ Nat.le_refl _) ⟨_, Heap.get?_push_size _ rfl, rfl, rfl⟩

def irange (a b : Int) : List V := (List.range (b - a).toNat).map fun (i : Nat) => V.int (a + (i : Int))
theorem Itr.rng {target : Expr} {it : Addr} {a b : Int} (hh : A.handled = none) :
    Itr C A target (.ref it) (fun b => b = it) (fun k h => IsRangeIter h it (a + k) (((b - a).toNat : Int) - k) 1) (fun _ => True) (irange a b) where
  frame := fun k h h' e _ kp => kp it _ rfl e
  notTup := fun k h b o' e q z => by subst q; rw [e] at z; cases z; exact Imm.not (by simp) (by simp) (by simp)
  there := fun k h b e q => by subst q; exact ⟨_, e⟩
  more := fun k σ s x Q X S hok hJ hx no hQ => by
    obtain ⟨hk, rfl⟩ := List.getElem?_eq_some_iff.mp hx
    have hk' : k < (b - a).toNat := by simpa [irange] using hk
    refine wpAny_pyNext_range_item hJ (by omega) fun h' J' sb => ?_
    refine hQ _ h' (s.toks + 1) ?_ (fun b o q e => (sb.2 b q).trans e) (fun b o' q z => ?_) (fun Q' X' hq => by
      exact letGo_plain (s := { s with heap := h', toks := s.toks + 1 }) J' rfl (by decide) (hq h' (s.toks + 1) (by
        have e1 : a + (k : Int) + 1 = a + ((k + 1 : Nat) : Int) := by omega
        have e2 : ((b - a).toNat : Int) - k - 1 = ((b - a).toNat : Int) - ((k + 1 : Nat) : Int) := by omega
        rw [e1, e2] at J'; exact J') fun _ _ _ e => e))
    · simp only [irange, List.getElem_map, List.getElem_range]; exact .int _ _
    · subst q; rw [J'] at z; cases z; exact Imm.not (by simp) (by simp) (by simp)
  self := fun k s Q X hJ hq => wpAny_pyIter_rangeiter hJ hq
  done := fun k σ s Q X S hok hJ hx no hQ => by
    have h1 := List.getElem?_eq_none_iff.mp hx
    simp only [irange, List.length_map, List.length_range] at h1
    exact wpAny_pyNext_range_end hh hJ (by omega) fun h' kp => hQ h' s.toks fun b o q e => kp b o q e
theorem ItV.rng {target : Expr} {a b : Int} (hh : A.handled = none) (ha : -(2 ^ 62) ≤ a) (ha' : a < 2 ^ 62) (hb : -(2 ^ 62) ≤ b) (hb' : b < 2 ^ 62) : ItV C A target (.rng a b) σ (irange a b) (fun _ => True) := by
  refine ⟨trivial, fun s v Q X S r hQ => ?_⟩
  cases r with
  | rng hr =>
    refine wpAny_pyIter_range hr (small_one ha ha' hb hb') ?_
    refine hQ _ _ _ _ s.toks (Itr.rng (a := a) (b := b) hh) (fun b o e => Heap.get?_push_of_some _ e) (fun b w => w ▸ Nat.le_refl _) ?_
    have e2 : Builtin.Range.rangeSize a b 1 = ((b - a).toNat : Int) := by rw [rangeSize_one]; split <;> omega
    rw [e2]
    simpa using Heap.get?_push_size s.heap (o := { cls := .type "range_iterator", data := .fields #[rawInt a, rawInt ((b - a).toNat : Int), rawInt 1] }) rfl
end

end Mine

set_option autoImplicit false
set_option linter.unusedVariables false
namespace Mine
open PySem PySem.W

/-- the cells that a comprehension takes along -/
def clOf (cells : List (Str × Addr)) : List (Str × NameKind) → List (Str × Addr) → List (Str × Addr)
  | [], acc => acc
  | (n, k) :: r, acc => if k == .free then clOf cells r ((n, (cells.lookup n).getD 0) :: acc) else clOf cells r acc

theorem closure_go {env : Env} : ∀ (names : List (Str × NameKind)) (acc : List (Str × Addr)), (names.all fun p => p.2 != .free || (env.cells.lookup p.1).isSome) = true →
    (forIn names acc fun (x : Str × NameKind) (r : List (Str × Addr)) => (if x.2 == NameKind.free then (do let c ← cellOf env x.1; pure (ForInStep.yield ((x.1, c) :: r))) else pure (ForInStep.yield r) : Sem (ForInStep (List (Str × Addr))))) = pure (clOf env.cells names acc)
  | [], acc, _ => rfl
  | (n, k) :: r, acc, h => by
    simp only [List.all_cons, Bool.and_eq_true] at h
    rw [List.forIn_cons]
    unfold clOf
    by_cases q : (k == .free) = true
    · have hk : k = .free := by cases k <;> first | rfl | cases q
      subst hk
      have h1 : (env.cells.lookup n).isSome = true := by simpa using h.1
      obtain ⟨c, hc⟩ := Option.isSome_iff_exists.mp h1
      have e : cellOf env n = pure c := by unfold cellOf; rw [hc]
      simp only [q, if_true, e, pure_bind, hc, Option.getD_some]
      exact closure_go r _ h.2
    · simp only [q, if_false, pure_bind]
      exact closure_go r _ h.2
theorem closureFor_mine {env : Env} {scope : Scope} (h : (scope.names.all fun p => p.2 != .free || (env.cells.lookup p.1).isSome) = true) : closureFor scope env = pure (clOf env.cells scope.names []) := by
  unfold closureFor
  have := closure_go (env := env) scope.names [] h
  simp only [bind_pure]
  exact this

theorem clOf_mem {cells : List (Str × Addr)} : ∀ {names : List (Str × NameKind)} {acc : List (Str × Addr)} {x : Str} {c : Addr}, (x, c) ∈ clOf cells names acc → (x, c) ∈ acc ∨ ((x, NameKind.free) ∈ names ∧ c = (cells.lookup x).getD 0)
  | [], _, _, _, h => .inl h
  | (n, k) :: r, acc, x, c, h => by
    unfold clOf at h
    split at h
    · rename_i q
      have hk : k = .free := by cases k <;> first | rfl | cases q
      subst hk
      rcases clOf_mem h with z | ⟨z, e⟩
      · rcases List.mem_cons.mp z with z | z
        · cases z; exact .inr ⟨.head _, rfl⟩
        · exact .inl z
      · exact .inr ⟨.tail _ z, e⟩
    · rcases clOf_mem h with z | ⟨z, e⟩
      · exact .inl z
      · exact .inr ⟨.tail _ z, e⟩

/-- the names that a comprehension takes along, with their values -/
inductive Capt (ρ : Rho) : List (Str × NameKind) → Rho → Prop
  | nil : Capt ρ [] []
  | skip {n : Str} {k : NameKind} {r : List (Str × NameKind)} {ρc : Rho} : k ≠ .free → Capt ρ r ρc → Capt ρ ((n, k) :: r) ρc
  | take {n : Str} {v : V} {r : List (Str × NameKind)} {ρc : Rho} : ρ.get n = some v → Capt ρ r ρc → Capt ρ ((n, .free) :: r) ((n, v) :: ρc)
theorem Capt.get {ρ : Rho} {x : Str} {v : V} : ∀ {names : List (Str × NameKind)} {ρc : Rho}, Capt ρ names ρc → ρc.get x = some v → ρ.get x = some v ∧ (x, NameKind.free) ∈ names
  | _, _, .nil, h => by cases h
  | _, _, .skip _ c, h => by
    obtain ⟨a, b⟩ := c.get h
    exact ⟨a, .tail _ b⟩
  | _, _, .take (n := n) (v := u) (ρc := ρc) e c, h => by
    have h' : (if x = n then some u else Rho.get ρc x) = some v := h
    by_cases q : x = n
    · subst q; rw [if_pos rfl] at h'; cases h'; exact ⟨e, .head _⟩
    · rw [if_neg q] at h'
      obtain ⟨a, b⟩ := c.get h'
      exact ⟨a, .tail _ b⟩

def compOk (scope : Scope) : Bool := scope.names.all fun p => p.2 != .cell && (p.2 != .free || scope.names.lookup p.1 == some .free) && (p.2 != .local || scope.names.lookup p.1 == some .local)

theorem lookup_map_kind {g : Str → NameKind → NameKind} {x : Str} : ∀ (names : List (Str × NameKind)), (names.map fun (n, k) => (n, g n k)).lookup x = (names.lookup x).map (g x)
  | [] => rfl
  | (n, k) :: r => by
    simp only [List.map_cons, List.lookup_cons]
    cases q : x == n with
    | true => rw [beq_iff_eq.mp q]; rfl
    | false => exact lookup_map_kind r
theorem relabel_lookup {scope : Scope} {env : Env} {x : Str} : (relabel scope env).names.lookup x = (scope.names.lookup x).map fun k => if (k == .free && env.scope.kind == .function && env.kindOf x == some .cell) then .cell else k := by
  have e : (relabel scope env).names = scope.names.map fun (n, k) => (n, (fun (n : Str) (k : NameKind) => if (k == .free && env.scope.kind == .function && env.kindOf n == some .cell) then NameKind.cell else k) n k) := by
    unfold relabel
    refine List.map_congr_left fun p _ => ?_
    obtain ⟨n, k⟩ := p
    dsimp only
    split <;> rfl
  rw [e]
  exact lookup_map_kind (g := fun n k => if (k == .free && env.scope.kind == .function && env.kindOf n == some .cell) then NameKind.cell else k) scope.names

section
variable {C : Cx} {A : Around} {env : Env} {ρ : Rho} {σ : Store} {X : XP} {s : Shared}

theorem St.adopt {a : Addr} {o : O} {σ0 : Store} {h0 : Heap} (S : St C σ s) (r : Rep C s.heap a o) (hn : C.n₀ ≤ a) (e : Evo σ0 h0 σ s.heap) (hf : h0.get? a = none) : St C (σ.upd a o) s ∧ Evo σ0 h0 (σ.upd a o) s.heap := by
  refine ⟨⟨S.base, fun b x hx => ?_, fun b x hx => ?_, S.gens, S.os⟩, e.keep, fun b x hx => ?_, fun b x hx => ?_, e.tup⟩
  · by_cases q : b = a
    · subst q; rw [Store.upd_self] at hx; cases hx; exact r
    · rw [Store.upd_ne _ _ q] at hx; exact S.rep b x hx
  · by_cases q : b = a
    · subst q; exact ⟨S.baseFresh hn, .inl hn⟩
    · rw [Store.upd_ne _ _ q] at hx; exact S.above b x hx
  · by_cases q : b = a
    · subst q; exact .inr hf
    · rw [Store.upd_ne _ _ q] at hx; exact e.dom b x hx
  · obtain ⟨o', h'⟩ := e.mono b x hx
    by_cases q : b = a
    · subst q; exact ⟨_, Store.upd_self ..⟩
    · exact ⟨o', by rw [Store.upd_ne _ _ q]; exact h'⟩

/-- a comprehension, whatever is done with its list -/
theorem comp_run {x : Str} {px pos : Pos} {elt iter : Expr} {ifs : List Expr} {scope : Scope} {ρc : Rho} {use : Option (Value → Sem Unit)} {Qr : Value → Shared → Prop} {R : List V → Store → Prop}
    (hfree : (scope.names.all fun p => p.2 != .free || (env.cells.lookup p.1).isSome) = true) (hck : compOk scope = true) (hk : scope.kind = .function) (hx : scope.names.lookup x = some .local) (cap : Capt ρ scope.names ρc)
    (hs : ∀ x, foldedSetIterable iter env x = pure x) (S : St C σ s) (F : Fm C σ s.heap env ρ)
    (h : Src C A env (.Name x px) iter ρ σ (fun xs ok σ1 => ∀ L, CmpL C A (compEnvC scope (clOf env.cells scope.names []) L env) x ifs elt ok ρc R xs [] σ1) X)
    (fin : ∀ acc L σ2 s2 out items, R out σ2 → St C σ2 s2 → Evo σ s.heap σ2 s2.heap → s2.heap.PlainList acc items → VRs s2.heap items.toList out → σ2 acc = none → (∃ m, s2.heap.Ns L m) → σ2 L = none → C.n₀ ≤ acc → C.n₀ ≤ L → acc ≠ L → s.heap.get? acc = none → s.heap.get? L = none →
      compPost C.M A X use Qr (.ref acc) L (.ok .next) s2) :
    wpAny C.M A (comprehension (.ListComp elt [⟨.Name x px, iter, ifs, 0⟩] scope pos) scope env (firstIterPos [⟨.Name x px, iter, ifs, 0⟩] pos) (newList []) false (eval iter env) use) Qr X s := by
  have names_of : ∀ p ∈ scope.names, p.2 ≠ .cell ∧ (p.2 = .free → scope.names.lookup p.1 = some .free) ∧ (p.2 = .local → scope.names.lookup p.1 = some .local) := fun p hp => by
    have := List.all_eq_true.mp hck p hp
    simp only [Bool.and_eq_true, bne_iff_ne, ne_eq, Bool.or_eq_true, beq_iff_eq] at this
    refine ⟨this.1.1, fun e => ?_, fun e => ?_⟩
    · rcases this.1.2 with z | z
      · exact absurd e z
      · exact z
    · rcases this.2 with z | z
      · exact absurd e z
      · exact z
  refine wpAny_comprehension_free (cl := clOf env.cells scope.names []) rfl hs (closureFor_mine hfree) hk (fun p hp e => (names_of p hp).2.2 e) ?_
  refine wpAny_mono (h s S F) (fun v s1 h1 => wpAny_mono h1 ?_ fun _ _ z => z) fun _ _ z => z
  rintro it s2 ⟨xs, ok, σ', ow, J, q, W, hok, S2, e2, fr, hJ⟩
  refine wpAny_newObj_type (wpAny_newFunctionEnv (fun p hp => (names_of p hp).1) (by intro y hy; simp at hy) (fun h₁ hns₁ hsb₁ => ?_) hk)
  dsimp only at hns₁ hsb₁ ⊢
  generalize hH2 : s2.heap.push { cls := .type "list", dict := none, data := .seq ([] : List Value).toArray } = H2 at hns₁ hsb₁ ⊢
  have hC : H2.objs.size = s2.heap.objs.size + 1 := by rw [← hH2, push_size]
  have hDC : s2.heap.objs.size ≠ H2.objs.size := by rw [hC]; exact Nat.ne_of_lt (Nat.lt_succ_self _)
  have old : ∀ b o, s2.heap.get? b = some o → h₁.get? b = some o := fun b o e =>
    hsb₁.extBut b o (by rw [hC]; exact Nat.ne_of_lt (Nat.lt_succ_of_lt (Heap.lt_size e))) (Heap.get?_push_of_some _ (hH2 ▸ Heap.get?_push_of_some _ e))
  have hacc : h₁.PlainList s2.heap.objs.size #[] := ⟨_, hsb₁.extBut _ _ hDC (Heap.get?_push_of_some _ (hH2 ▸ Heap.get?_push_size _ rfl))⟩
  have F2 := F.evo e2
  have e12 : Evo σ' s2.heap σ' h₁ := .ext old
  have fresh2 : ∀ b, s2.heap.objs.size ≤ b → s.heap.get? b = none := fun b hb => Evo.fresh (h' := s2.heap) S2 e2 hb
  have hLle : s2.heap.objs.size ≤ H2.objs.size := by rw [hC]; exact Nat.le_succ _
  have cl_of : ∀ y c, (clOf env.cells scope.names []).lookup y = some c → env.cells.lookup y = some c ∧ scope.names.lookup y = some .free := fun y c hy => by
    rcases clOf_mem (mem_of_lookup hy) with z | ⟨z, e⟩
    · cases z
    · have h1 := List.all_eq_true.mp hfree _ z
      have h2 : (env.cells.lookup y).isSome = true := by simpa using h1
      obtain ⟨c', hc'⟩ := Option.isSome_iff_exists.mp h2
      rw [hc'] at e
      exact ⟨by rw [hc', e]; rfl, (names_of _ z).2.1 rfl⟩
  have S3 : St C σ' { s2 with heap := h₁, toks := s2.toks } := S2.ext old
  have F3 : Fm C σ' h₁ (compEnvC scope (clOf env.cells scope.names []) H2.objs.size env) ρc := by
    refine ⟨by show (relabel scope env).kind = _; exact hk, ⟨_, hns₁, fun y v hy hv => ?_⟩, S2.fresh' hLle, Nat.le_trans S2.size hLle, fun y c hy => ?_, fun y c hy => ?_, fun y z c hy hz => ?_⟩
    · exfalso
      obtain ⟨_, m⟩ := cap.get hv
      have h1 := (names_of _ m).2.1 rfl
      have h2 : (relabel scope env).names.lookup y = some .local := hy
      rw [relabel_lookup, h1] at h2
      simp only [Option.map_some, Option.some.injEq] at h2
      split at h2 <;> cases h2
    · obtain ⟨h1, _⟩ := cl_of y c hy
      obtain ⟨ov, a, b⟩ := (F2.evo e12).cell y c h1
      exact ⟨ov, a, fun v hv => b v (cap.get hv).1⟩
    · obtain ⟨h1, _⟩ := cl_of y c hy
      obtain ⟨n1, n2, n3⟩ := F2.ncell y c h1
      refine ⟨n1, ?_, n3⟩
      obtain ⟨ov, a, b⟩ := F2.cell y c h1
      exact Nat.ne_of_lt (Nat.lt_of_lt_of_le a.lt hLle)
    · exact F.apart y z c (cl_of y c hy).1 (cl_of z c hz).1
  have ownc : ∀ b, Own (compEnvC scope (clOf env.cells scope.names []) H2.objs.size env) b → b = H2.objs.size ∨ Own env b := by
    rintro b (z | ⟨y, z⟩)
    · exact .inl z
    · exact .inr (.inr ⟨y, (cl_of y b z).1⟩)
  have own_lt : ∀ b, Own env b → b < s2.heap.objs.size := fun b w => by
    obtain ⟨o, e⟩ := F2.own_there w
    exact Heap.lt_size e
  have owlt : ∀ b, ow b → b < s2.heap.objs.size := fun b w => by
    obtain ⟨o, e⟩ := W.there 0 _ b hJ w
    exact Heap.lt_size e
  have loop : ∀ s₃ : Shared, s₃ = { s2 with heap := h₁, toks := s2.toks + ([] : List (Str × Value)).length } →
      codeAny C.M A (.compLoop (.ListComp elt [⟨.Name x px, iter, ifs, 0⟩] scope pos) 0 it (.ref s2.heap.objs.size) (compEnvC scope (clOf env.cells scope.names []) H2.objs.size env))
        (compPost C.M A X use Qr (.ref s2.heap.objs.size) H2.objs.size) s₃ := by
    rintro s₃ rfl
    refine comp_turns (σ0 := σ) (h0 := s.heap) (R := R) W ?_ ?_ ?_ (fun b w => (fr b w).1) (fresh2 _ (Nat.le_refl _)) (fresh2 _ hLle) (fun b w => ?_) ?_ (fun w => Nat.lt_irrefl _ (owlt _ w)) hDC
      (fun w => absurd (owlt _ w) (Nat.not_lt.mpr hLle)) (fun b w z => ?_) (fun z => ?_) ?_ _ 0 [] σ' _ #[] rfl hok (by simpa using q H2.objs.size) S3 F3 (e2.trans e12) (W.frame _ _ _ hJ e12.tup fun b o _ e => old b o e)
      (fun b w => (fr b w).2) hacc .nil (S2.fresh' (Nat.le_refl _))
    · exact lookup_relabel_local hx
    · cases z : (clOf env.cells scope.names []).lookup x with
      | none => exact z
      | some c => have := (cl_of x c z).2; rw [hx] at this; cases this
    · cases z : ρc.get x with
      | none => rfl
      | some v => have := (names_of _ (cap.get z).2).2.1 rfl; rw [hx] at this; cases this
    · cases z : C.h₀.get? b with
      | none => rfl
      | some o => have := S.base _ _ z; rw [(fr b w).1] at this; cases this
    · cases z : C.h₀.get? s2.heap.objs.size with
      | none => rfl
      | some o => have := S.base _ _ z; rw [fresh2 _ (Nat.le_refl _)] at this; cases this
    · rcases ownc b z with y | y
      · exact absurd (owlt _ w) (by rw [y]; exact Nat.not_lt.mpr hLle)
      · obtain ⟨o, e⟩ := F.own_there y
        rw [(fr b w).1] at e; cases e
    · rcases ownc _ z with y | y
      · exact hDC y
      · exact Nat.lt_irrefl _ (own_lt _ y)
    · intro out σ2 s4 items hR S4 e4 pl4 r4 na4 ns4 nl4
      exact fin _ _ σ2 s4 out items hR S4 e4 pl4 r4 na4 ns4 nl4 S2.size (Nat.le_trans S2.size hLle) hDC (fresh2 _ (Nat.le_refl _)) (fresh2 _ hLle)
  exact codeAny_compStart_list (loop _ rfl) (W.self 0 _ _ _ (W.frame _ _ _ hJ e12.tup fun b o _ e => old b o e) (loop _ rfl))

theorem Ev.comp {x : Str} {px pos : Pos} {elt iter : Expr} {ifs : List Expr} {scope : Scope} {ρc : Rho} {Q : V → Store → Prop}
    (hfree : (scope.names.all fun p => p.2 != .free || (env.cells.lookup p.1).isSome) = true) (hck : compOk scope = true) (hk : scope.kind = .function) (hx : scope.names.lookup x = some .local) (cap : Capt ρ scope.names ρc)
    (h : Src C A env (.Name x px) iter ρ σ (fun xs ok σ1 => ∀ L, CmpL C A (compEnvC scope (clOf env.cells scope.names []) L env) x ifs elt ok ρc (fun out σ2 => ∀ a, σ2 a = Option.none → Q (.ref a) (σ2.upd a (.list out))) xs [] σ1) X)
    (hs : ∀ x, foldedSetIterable iter env x = Pure.pure x := by intro _; kernel_rfl) : Ev C A env (.ListComp elt [⟨.Name x px, iter, ifs, 0⟩] scope pos) ρ σ Q X := by
  intro s S F
  rw [eval_ListComp]
  refine comp_run hfree hck hk hx cap hs S F h ?_
  intro acc L σ2 s2 out items q S2 e2 pl2 r2 na2 ⟨m, hm⟩ nl2 n1 n2 hne fa fl
  refine ⟨m, hm, fun h' sb => ?_⟩
  have kp : ∀ b o, ¬ b = L → s2.heap.get? b = some o → h'.get? b = some o := fun b o w e => (sb.2 b w).trans e
  have nt : ∀ b o, b = L → s2.heap.get? b = some o → ¬ Imm o := fun b o w z => by
    subst w
    obtain ⟨o', es, ep, ho, hd, _⟩ := hm
    rw [ho] at z; cases z; exact Imm.notDict hd
  have S3 : St C σ2 { s2 with heap := h', toks := s2.toks } := S2.ow (ow := fun b => b = L) kp nt (fun b w => w ▸ nl2) (fun b w => by
    subst w
    cases z : C.h₀.get? b with
    | none => rfl
    | some o => exact absurd (C.low _ _ z) (Nat.not_lt.mpr n2))
  have e3 : Evo σ s.heap σ2 h' := e2.ow (ow := fun b => b = L) kp (fun b w => w ▸ fl)
  obtain ⟨S4, e4⟩ := S3.adopt (a := acc) (o := .list out) ⟨items, pl2.at fun o e => kp _ _ hne e, r2.mono (tk_ow (ow := fun b => b = L) kp nt)⟩ n1 e3 fa
  exact ⟨.ref acc, _, q acc na2, .ref _, S4, e4⟩

/-- a comprehension stored into a name of the frame's own straight away -/
theorem Ex.assignComp {x y : Str} {px py pos spos : Pos} {elt iter : Expr} {ifs : List Expr} {scope : Scope} {ρc : Rho} {Q : FV → Rho → Store → Prop}
    (hfree : (scope.names.all fun p => p.2 != .free || (env.cells.lookup p.1).isSome) = true) (hck : compOk scope = true) (hk : scope.kind = .function) (hx : scope.names.lookup x = some .local) (cap : Capt ρ scope.names ρc)
    (hy : env.kindOf y = some .local) (hyc : env.cells.lookup y = none)
    (h : Src C A env (.Name x px) iter ρ σ (fun xs ok σ1 => ∀ L, CmpL C A (compEnvC scope (clOf env.cells scope.names []) L env) x ifs elt ok ρc (fun out σ2 => ∀ a, σ2 a = none → Q .next (ρ.put y (.ref a)) (σ2.upd a (.list out))) xs [] σ1) X)
    (hsw : swapsWith (.ListComp elt [⟨.Name x px, iter, ifs, 0⟩] scope pos) (some (.Name y py)) spos.line env = pure true := by kernel_rfl)
    (hs : ∀ x, foldedSetIterable iter env x = pure x := by intro _; kernel_rfl) : Ex C A env (.Assign [.Name y py] (.ListComp elt [⟨.Name x px, iter, ifs, 0⟩] scope pos) spos) ρ σ Q X := by
  intro s S F
  rw [exec_Assign_Name_used _ _ _ _ hsw]
  refine wpAny_bind (wpAny_standAt (wpAny_bind ?_))
  rw [arm_evalThenUse_ListComp]
  refine wpAny_bind ?_
  refine comp_run (Qr := fun _ s' => wpAny C.M A (pure PUnit.unit) (fun _ s' => wpAny C.M A (pure Flow.next) (SP C env σ s.heap Q) X s') X s') hfree hck hk hx cap hs S F h ?_
  intro acc L σ2 s2 out items q S2 e2 pl2 r2 na2 ⟨m, hm⟩ nl2 n1 n2 hne fa fl
  have F2 := F.evo e2
  obtain ⟨m2, hm2, f2⟩ := F2.loc
  have hLe : L ≠ env.locals := fun z => by
    obtain ⟨o, e⟩ := F.own_there (.inl rfl)
    rw [z, e] at fl; cases fl
  have hAe : acc ≠ env.locals := fun z => by
    obtain ⟨o, e⟩ := F.own_there (.inl rfl)
    rw [z, e] at fa; cases fa
  obtain ⟨S4, e4⟩ := S2.adopt (a := acc) (o := .list out) ⟨items, pl2, r2⟩ n1 e2 fa
  have F4 : Fm C (σ2.upd acc (.list out)) s2.heap env ρ := F.evo e4
  refine wpAny_assign_Name (wpAny_storeName_local hy hm2 (fun h3 hn3 hs3 => ?_) (by rw [F2.fn]; rfl))
  obtain ⟨S5, F5, e5⟩ := Fm.storeLocal (h := s2.heap) (t := s2.toks + 1) S4 F4 hy hm2 f2 hn3 hs3 (VR.ref acc) hyc
  have hm3 : h3.Ns L m := hm.sameBut hs3 hLe
  refine ⟨m, hm3, fun h' sb => ?_⟩
  have kp : ∀ b o, ¬ b = L → h3.get? b = some o → h'.get? b = some o := fun b o w e => (sb.2 b w).trans e
  have nt : ∀ b o, b = L → h3.get? b = some o → ¬ Imm o := fun b o w z => by
    subst w
    obtain ⟨o', es, ep, ho, hd, _⟩ := hm3
    rw [ho] at z; cases z; exact Imm.notDict hd
  have nl4 : (σ2.upd acc (.list out)) L = none := by rw [Store.upd_ne _ _ hne.symm]; exact nl2
  have S6 : St C (σ2.upd acc (.list out)) { s2 with heap := h', toks := s2.toks + 1 } := St.ow (s := { s2 with heap := h3, toks := s2.toks + 1 }) (ow := fun b => b = L) S5 kp nt (fun b w => w ▸ nl4) (fun b w => by
    subst w
    cases z : C.h₀.get? b with
    | none => rfl
    | some o => exact absurd (C.low _ _ z) (Nat.not_lt.mpr n2))
  refine wpAny_pure (wpAny_pure ⟨.next, _, _, q acc na2, .next, S6, F5.ow (ow := fun b => b = L) kp nt (fun b w z => ?_), ((e4.evoF F.own).trans e5).ow (ow := fun b => b = L) kp (fun b w => w ▸ fl)⟩)
  subst w
  obtain ⟨o, e⟩ := F.own_there z
  rw [e] at fl; cases fl
end

end Mine

set_option autoImplicit false
set_option linter.unusedVariables false
namespace Mine
open PySem PySem.W PySem.SeqAt

section
variable {C : Cx} {A : Around} {env : Env} {ρ : Rho} {σ : Store} {X : XP} {s : Shared}

mutual
/-- a value as plain data -/
inductive DR (C : Cx) (σ : Store) : V → PyData → Prop where
  | none : DR C σ .none .none
  | bool (b : Bool) : DR C σ (.bool b) (.bool b)
  | int (i : Int) : DR C σ (.int i) (.int i)
  | str (x : Str) : DR C σ (.str x) (.str x)
  | tup {xs : List V} {ds : List PyData} : DRs C σ xs ds → DR C σ (.tup xs) (.tuple ds)
  | list {l : Addr} {xs : List V} {ds : List PyData} : LstAt C σ l xs → DRs C σ xs ds → DR C σ (.ref l) (.list ds)
inductive DRs (C : Cx) (σ : Store) : List V → List PyData → Prop where
  | nil : DRs C σ [] []
  | cons {x : V} {xs : List V} {d : PyData} {ds : List PyData} : DR C σ x d → DRs C σ xs ds → DRs C σ (x :: xs) (d :: ds)
end

mutual
theorem DR.reads (S : St C σ s) : ∀ {x : V} {d : PyData} {v : Value}, DR C σ x d → VR s.heap v x → ∃ as, Reads s.heap v d as
  | _, _, _, .none, .none => ⟨_, .none⟩
  | _, _, _, .bool b, .bool _ => ⟨_, .bool b⟩
  | _, _, _, .int i, .int _ t => ⟨_, .int i t⟩
  | _, _, _, .str x, .str _ t => ⟨_, .str x t⟩
  | _, _, _, .tup ds, .tup e r => by
    obtain ⟨as, h⟩ := DRs.reads S ds r
    exact ⟨_, .tuple e rfl rfl h⟩
  | _, _, _, .list (l := l) hl ds, .ref _ => by
    obtain ⟨items, ⟨o, e, c, n, hd⟩, r⟩ := hl.raw S
    obtain ⟨as, h⟩ := DRs.reads S ds r
    exact ⟨_, .list e c hd h⟩
theorem DRs.reads (S : St C σ s) : ∀ {xs : List V} {ds : List PyData} {vs : List Value}, DRs C σ xs ds → VRs s.heap vs xs → ∃ as, ReadsAll s.heap vs ds as
  | _, _, _, .nil, .nil => ⟨_, .nil⟩
  | _, _, _, .cons a b, .cons r rs => by
    obtain ⟨as, h⟩ := DR.reads S a r
    obtain ⟨bs, h'⟩ := DRs.reads S b rs
    exact ⟨_, .cons h h'⟩
end

theorem CmpWP.ne {x y : V} {d e : PyData} {Q : V → Store → Prop} (hx : DR C σ x d) (hy : DR C σ y e) (h1 : d.canLay0 = true) (h2 : e.canLay0 = true) (hu : A.units + min d.depth e.depth < cLine) (h : Q (.bool (!PyData.eqv d e)) σ) :
    CmpWP C A .NotEq x y σ Q X := by
  intro s a b S ra rb
  obtain ⟨as, r1⟩ := hx.reads S ra
  obtain ⟨bs, r2⟩ := hy.reads S rb
  exact neOverData _ _ _ _ _ _ _ _ _ _ _ _ r1 r2 h1 h2 hu (EP.pure S h (.bool _))
theorem CmpWP.inL {x : V} {l : Addr} {xs : List V} {d : PyData} {ds : List PyData} {Q : V → Store → Prop} (hl : LstAt C σ l xs) (hx : DR C σ x d) (hy : DRs C σ xs ds) (h1 : d.canLay0 = true) (h2 : PyData.canLayAll0 ds = true) (hu : A.units + 1 + min (PyData.depthAll ds) d.depth < cLine)
    (h : Q (.bool (ds.any fun y => PyData.eqv y d)) σ) : CmpWP C A .In x (.ref l) σ Q X := by
  intro s a b S ra rb
  obtain ⟨as, r1⟩ := hx.reads S ra
  obtain ⟨bs, r2⟩ := (DR.list hl hy).reads S rb
  exact in_list_reads r2 r1 h2 h1 hu (EP.pure S h (.bool _))
theorem CmpWP.inT {x : V} {xs : List V} {d : PyData} {ds : List PyData} {Q : V → Store → Prop} (hx : DR C σ x d) (hy : DRs C σ xs ds) (h1 : d.canLay0 = true) (h2 : PyData.canLayAll0 ds = true) (hu : A.units + 1 + min (PyData.depthAll ds) d.depth < cLine)
    (h : Q (.bool (ds.any fun y => PyData.eqv y d)) σ) : CmpWP C A .In x (.tup xs) σ Q X := by
  intro s a b S ra rb
  obtain ⟨as, r1⟩ := hx.reads S ra
  obtain ⟨bs, r2⟩ := (DR.tup hy).reads S rb
  exact in_tuple_reads r2 r1 h2 h1 hu (EP.pure S h (.bool _))
/- None, True, False -/
theorem CmpWP.isNotNone {x : V} {Q : V → Store → Prop} (h : Q (.bool (match x with | .none => false | _ => true)) σ) : CmpWP C A .IsNot x .none σ Q X := by
  intro s a b S ra rb
  cases rb
  refine isNot_none (EP.pure S h ?_)
  cases ra <;> exact .bool _

/- lists: truth, length, items -/
def BltWP (C : Cx) (A : Around) (id : String) (args : List V) (σ : Store) (Q : V → Store → Prop) (X : XP) : Prop := CallWP C A (.builtin id) args σ Q X

theorem BltWP.len_list {l : Addr} {xs : List V} {Q : V → Store → Prop} (hl : LstAt C σ l xs) (hz : xs.length < 2 ^ 62) (h : Q (.int xs.length) σ) : CallWP C A (.builtin "len") [.ref l] σ Q X := by
  intro s vs S r
  cases r with
  | cons r1 r2 =>
  cases r2; cases r1
  obtain ⟨items, il, rl⟩ := hl.raw S
  have e := rl.length
  simp only [Array.length_toList] at e
  refine Calls.call_len_list il (by omega) ⟨_, σ, h, ?_, S.toks _, .refl ..⟩
  rw [e]; exact .int _ _
end

end Mine

set_option autoImplicit false
set_option linter.unusedVariables false
namespace Mine
open PySem PySem.W PySem.SeqAt

/-- its items come by a built-in -/
def Gets (s : Shared) (a : Value) : Prop := ∃ T id, s.TypeIs a T ∧ typeLookup (.type T) "__getitem__" = pure (some (.builtin id))
def ItemWP (C : Cx) (A : Around) (o i : V) (σ : Store) (Q : V → Store → Prop) (X : XP) : Prop :=
  ∀ s a b, St C σ s → VR s.heap a o → VR s.heap b i → Gets s a ∧ wpAny C.M A (getItem a b) (EP C σ s.heap Q) X s

section
variable {C : Cx} {A : Around} {env : Env} {ρ : Rho} {σ : Store} {X : XP} {s : Shared}

theorem Gets.list {a : Addr} {items : Array Value} (h : s.heap.IsList a items) : Gets s (.ref a) := ⟨_, _, h.typeIs, PySem.slot_list_getitem.lookup⟩
theorem Gets.tup {a : Addr} {items : Array Value} {n : Nat} (h : s.heap.get? a = some (tupObj items n)) : Gets s (.ref a) := ⟨_, _, ⟨_, h, rfl⟩, PyProof.Rows.slot_tuple_getitem.lookup⟩
theorem Gets.str {x : Str} {t : Tok} : Gets s (.str x t) := ⟨_, _, typeIs_str s x t, PyProof.Rows.slot_str_getitem.lookup⟩

theorem getitem_mine {o i : Value} {slice value : Expr} {Q : Value → Shared → Prop} {E : XP} (g : Gets s o) (h : wpAny C.M A (getItem o i) Q E s) :
    wpAny C.M A (do let r ← subscripted slice (← getitemInPython o) o i; letTemporaryGo value o r; pure r) Q E s := by
  obtain ⟨T, id, hT, hl⟩ := g
  refine wpAny_bind ?_
  rw [getitemInPython_of_ne hT.not_modules]
  refine wpAny_bind (wpAny_specialOf hT hl (wpAny_pure ?_))
  refine wpAny_bind (wpAny_mono (Q := Q) ?_ (fun r s' q => wpAny_bind (wpAny_letTemporaryGo (wpAny_pure q))) fun _ _ z => z)
  unfold subscripted
  split
  · exact wpAny_operating h
  · rename_i e; cases e
  · exact wpAny_operating h

theorem Ev.sub {value slice : Expr} {pos : Pos} {Q : V → Store → Prop} (h : Ev C A env value ρ σ (fun o σ1 => Ev C A env slice ρ σ1 (fun i σ2 => ItemWP C A o i σ2 Q X) X) X) : Ev C A env (.Subscript value slice pos) ρ σ Q X := by
  intro s S F
  rw [eval_Subscript]
  refine wpAny_bind (wpAny_mono (h s S F) ?_ fun _ _ z => z)
  rintro o s1 ⟨x, σ1, h1, r1, S1, e1⟩
  refine wpAny_bind (wpAny_holding (wpAny_mono (h1 s1 S1 (F.evo e1)) ?_ fun _ _ z => z))
  rintro i s2 ⟨y, σ2, h2, r2, S2, e2⟩
  obtain ⟨g, w⟩ := h2 s2 o i S2 (r1.mono e2.tup) r2
  exact wpAny_bind (wpAny_standAt (wpAny_mono (getitem_mine g w) (fun _ _ z => (z.after e2).after e1) fun _ _ z => z))

theorem ItemWP.list {l : Addr} {xs : List V} {k : Int} {y : V} {Q : V → Store → Prop} (hl : LstAt C σ l xs) (h0 : 0 ≤ k) (hk : k < 2 ^ 63) (hx : xs[k.toNat]? = some y) (h : Q y σ) : ItemWP C A (.ref l) (.int k) σ Q X := by
  intro s a b S ra rb
  cases ra; cases rb
  obtain ⟨items, il, rl⟩ := hl.raw S
  obtain ⟨u, hu, ru⟩ := rl.get hx
  exact ⟨.list il, wpAny_getItem_list il h0 hk (by simpa using hu) (EP.pure S h ru)⟩
theorem ItemWP.tup {xs : List V} {k : Int} {j : Nat} {y : V} {Q : V → Store → Prop} (hlo : -(2 ^ 63) ≤ k) (hhi : k < 2 ^ 63) (hj : seqIndex? k xs.length = some j) (hx : xs[j]? = some y) (h : Q y σ) : ItemWP C A (.tup xs) (.int k) σ Q X := by
  intro s a b S ra rb
  cases rb
  cases ra with
  | @tup t items n _ ha hr =>
    obtain ⟨u, hu, ru⟩ := hr.get hx
    have e := hr.length
    simp only [Array.length_toList] at e
    exact ⟨.tup ha, PyProof.Rows.getItem_tuple (t := t) (items := items) ⟨_, ha, rfl, n, rfl⟩ hlo hhi (by rw [e]; exact hj) (by simpa using hu) (EP.pure S h ru)⟩
theorem ItemWP.str {x : Str} {k : Int} {c : Nat} {Q : V → Store → Prop} (hlo : -(2 ^ 63) ≤ k) (hhi : k < 2 ^ 63) (hc : (seqIndex? k x.length).bind (x.cps[·]?) = some c) (h : Q (.str ⟨#[c]⟩) σ) : ItemWP C A (.str x) (.int k) σ Q X := by
  intro s a b S ra rb
  cases rb; cases ra
  exact ⟨.str, PyProof.Rows.getItem_str (by simp; omega) hc (EP.pureT S h (.str _ _))⟩

/- dicts -/
theorem ItemWP.sd {d : Addr} {es : List (Str × V)} {k : Str} {y : V} {Q : V → Store → Prop} (hd : σ d = some (.sd es)) (hx : sget es k = some y) (h : Q y σ) : ItemWP C A (.ref d) (.str k) σ Q X := by
  intro s a b S ra rb
  cases ra; cases rb
  rename_i t
  obtain ⟨kvs, D, pr⟩ := S.rep _ _ hd
  obtain ⟨u, hu, ru⟩ := pr.find (x := k) (y := y) hx
  refine ⟨⟨_, _, D.typeIs, PySem.slot_dict_getitem.lookup⟩, ?_⟩
  exact wpAny_getItem_of (knd := strKind C.prog C.w) (k := k) (by show (k == k) = true; simp) D.mapOf hu (EP.pureT S h ru)
def iget (es : List (Int × V)) (x : Int) : Option V := (es.find? fun p => decide (p.1 = x)).map (·.2)
/- slices -/
def Prt (C : Cx) (A : Around) (env : Env) (e : Option Expr) (ρ : Rho) (σ : Store) (Q : Option Int → Store → Prop) (X : XP) : Prop :=
  match e with
  | none => Q none σ
  | some e => Ev C A env e ρ σ (fun x σ1 => ∃ i, x = .int i ∧ Q (some i) σ1) X
theorem Prt.none {Q : Option Int → Store → Prop} (h : Q Option.none σ) : Prt C A env Option.none ρ σ Q X := h
theorem Prt.some {e : Expr} {Q : Option Int → Store → Prop} (h : Ev C A env e ρ σ (fun x σ1 => ∃ i, x = .int i ∧ Q (Option.some i) σ1) X) : Prt C A env (Option.some e) ρ σ Q X := h
theorem Prt.run {e : Option Expr} {Q : Option Int → Store → Prop} (h : Prt C A env e ρ σ Q X) (S : St C σ s) (F : Fm C σ s.heap env ρ) :
    wpAny C.M A (valueOrNone (evalOpt e env)) (fun v s' => ∃ k σ', Q k σ' ∧ IsPart v k ∧ St C σ' s' ∧ Evo σ s.heap σ' s'.heap) X s := by
  match e, h with
  | Option.none, h => exact wpAny_pure ⟨Option.none, σ, h, .none, S, .refl ..⟩
  | Option.some e, h =>
    refine wpAny_mono (h s S F) ?_ fun _ _ z => z
    rintro v s1 ⟨x, σ1, ⟨i, rfl, q⟩, r1, S1, e1⟩
    cases r1
    exact ⟨Option.some i, σ1, q, .int _ _, S1, e1⟩

def pySlice {α : Type} (xs : List α) (lo hi : Option Int) : List α :=
  (sliceRange (sliceBounds lo hi none xs.length).1 (sliceBounds lo hi none xs.length).2.1 (sliceBounds lo hi none xs.length).2.2).filterMap (xs[·]?)
theorem VRs.pick {h : Heap} {vs : List Value} {xs : List V} (r : VRs h vs xs) : ∀ ks : List Nat, VRs h (ks.filterMap (vs[·]?)) (ks.filterMap (xs[·]?))
  | [] => .nil
  | k :: ks => by
    have ih := VRs.pick r ks
    cases q : xs[k]? with
    | none =>
      have : vs[k]? = none := by
        have h1 := List.getElem?_eq_none_iff.mp q
        exact List.getElem?_eq_none_iff.mpr (by rw [r.length]; exact h1)
      simp only [List.filterMap_cons, q, this]; exact ih
    | some y =>
      obtain ⟨u, hu, ru⟩ := r.get q
      simp only [List.filterMap_cons, q, hu]; exact .cons ru ih
theorem slicePick_list (items : Array Value) (lo hi : Option Int) : (slicePick items lo hi none).toList = pySlice items.toList lo hi := by
  unfold slicePick pySlice
  simp
end

end Mine

set_option autoImplicit false
set_option linter.unusedVariables false
namespace Mine
open PySem PySem.W PySem.SeqAt

/-- a built-in type's value without a dict of its own -/
def TyV (C : Cx) (σ : Store) (x : V) (T : String) : Prop := ∀ s v, St C σ s → VR s.heap v x → s.TypeIs v T ∧ ∀ a, v = .ref a → ∃ ob, s.heap.get? a = some ob ∧ ob.dict = none

section
variable {C : Cx} {A : Around} {env : Env} {ρ : Rho} {σ : Store} {X : XP} {s : Shared}

theorem TyV.list {l : Addr} {xs : List V} (h : σ l = some (.list xs)) : TyV C σ (.ref l) "list" := by
  intro s v S r
  cases r
  obtain ⟨items, ⟨n, e⟩, _⟩ := S.rep _ _ h
  exact ⟨⟨_, e, rfl⟩, fun a q => by cases q; exact ⟨_, e, rfl⟩⟩
theorem TyV.str {x : Str} : TyV C σ (.str x) "str" := by
  intro s v S r
  cases r
  exact ⟨typeIs_str _ _ _, fun a q => by cases q⟩

/-- a method of a built-in type -/
theorem Ev.bmeth {o : Expr} {name : Str} {apos pos : Pos} {args : List Expr} {T id : String} {Q : V → Store → Prop} (pa : PlainAttrs T) (slot : Slot T name id) (hty : typeOf (.builtin id) = Pure.pure (.type "method_descriptor"))
    (h : Ev C A env o ρ σ (fun x σ1 => TyV C σ1 x T ∧ Ags C A env pos args ρ σ1 (fun xs σ2 => CallWP C A (.builtin id) (x :: xs) σ2 Q X) X) X)
    (hbase : attributeBase o name env (eval o env) = eval o env := by kernel_rfl)
    (hfew : ((backTo pos (starEach args env)).all (fun x => !x.1) && (backToKw pos (keywordEach [] env)).all (fun x => x.1.isSome)
      && decide (args.length + ([] : List Keyword).length + (if ([] : List Keyword).isEmpty then 0 else 1) < 30)) = true := by kernel_rfl)
    (hline : (apos.endLine == pos.line) = true := by kernel_rfl) (hst : (backTo pos (starEach args env)).any (·.1) = false := by kernel_rfl) : Ev C A env (.Call (.Attribute o name apos) args [] pos) ρ σ Q X := by
  intro s S F
  refine wpAny_Call_method hbase hfew hline pa slot hty (wpAny_mono (h s S F) ?_ fun _ _ z => z)
  rintro ov s1 ⟨x, σ1, ⟨t, q⟩, r1, S1, e1⟩
  obtain ⟨t1, t2⟩ := t s1 ov S1 r1
  exact ⟨t1, t2, wpAny_mono (callWith_mine (first := [ov]) (fx := [x]) Kp.blt S1 (F.evo e1) (.cons r1 .nil) q hst) (fun _ _ z => z.after e1) fun _ _ z => z⟩

/- one list changed -/
theorem upd_list {l : Addr} {xs : List V} {items : Array Value} {n : Nat} {f : Array Value → Array Value} {ys : List V} (S : St C σ s) (hl : σ l = some (.list xs)) (e : s.heap.get? l = some { cls := .type "list", data := .seq items n })
    (r : VRs s.heap (f items).toList ys) : St C (σ.upd l (.list ys)) { s with heap := s.heap.update l (Obj.mapSeq f) } ∧ Evo σ s.heap (σ.upd l (.list ys)) (s.heap.update l (Obj.mapSeq f)) := by
  have sb : Heap.SameBut l s.heap (s.heap.update l (Obj.mapSeq f)) := Heap.SameBut.update ..
  have tk : TupKeep s.heap (s.heap.update l (Obj.mapSeq f)) := tupKeep_sameBut sb (S.rep _ _ hl).notTup
  have e' : ∃ n', (s.heap.update l (Obj.mapSeq f)).get? l = some { cls := .type "list", data := .seq (f items) n' } := by
    refine ⟨if (f items).size == items.size then n else n + 1, ?_⟩
    rw [Heap.get?_update_self _ e (by rfl)]; rfl
  exact S.set (t := s.toks) hl sb ⟨f items, e', r.mono tk⟩

theorem VRs.reverse {h : Heap} {vs : List Value} {xs : List V} (r : VRs h vs xs) : VRs h vs.reverse xs.reverse := by
  induction r using VRs.rec (motive_1 := fun _ _ _ => True) with
  | nil => exact .nil
  | cons a b iha ih => simp only [List.reverse_cons]; exact ih.append (.cons a .nil)
  | _ => trivial

/- remove -/
theorem CallWP.reverse {l : Addr} {xs : List V} {Q : V → Store → Prop} (hl : σ l = some (.list xs)) (hz : xs.length ≤ sizeLine) (h : Q .none (σ.upd l (.list xs.reverse))) : CallWP C A (.builtin "list.reverse") [.ref l] σ Q X := by
  intro s vs S r
  cases r with
  | cons r1 r2 =>
  cases r2; cases r1
  obtain ⟨items, ⟨n, e⟩, rl⟩ := S.rep _ _ hl
  have el := rl.length
  simp only [Array.length_toList] at el
  refine wpAny_call_entry F.slot_list_reverse ⟨_, e, rfl⟩ F.entry_list_reverse ?_ (F.args_list_reverse_1 _)
  show wpAny _ _ (do Builtin.List.listUpdate (.ref l) (·.reverse); ret .none) _ _ s
  refine wpAny_bind (wpAny_updateSeq e rfl (wpAny_pure ⟨_, rfl, ?_⟩) (by omega) (by simp; omega))
  obtain ⟨S', e'⟩ := upd_list (f := fun x => x.reverse) S hl e (ys := xs.reverse) (by simp only [Array.toList_reverse]; exact rl.reverse)
  exact ⟨.none, _, h, .none, S', e'⟩
end

end Mine

set_option autoImplicit false
set_option linter.unusedVariables false
namespace Mine
open PySem PySem.W PySem.SeqAt

inductive Ty where
  | none | bool | int | str | tup | list | dict
def Ty.name : Ty → String
  | .none => "NoneType" | .bool => "bool" | .int => "int" | .str => "str" | .tup => "tuple" | .list => "list" | .dict => "dict"
inductive HasTy (C : Cx) (σ : Store) : V → Ty → Prop
  | none : HasTy C σ .none .none
  | bool (b : Bool) : HasTy C σ (.bool b) .bool
  | int (i : Int) : HasTy C σ (.int i) .int
  | str (x : Str) : HasTy C σ (.str x) .str
  | tup (xs : List V) : HasTy C σ (.tup xs) .tup
  | list {l : Addr} {xs : List V} : LstAt C σ l xs → HasTy C σ (.ref l) .list
  | sd {l : Addr} {xs : List (Str × V)} : σ l = some (.sd xs) → HasTy C σ (.ref l) .dict
  | id {l : Addr} {xs : List (Int × V)} : σ l = some (.id xs) → HasTy C σ (.ref l) .dict
def isiB : Ty → String → Bool
  | .bool, "int" => true
  | .bool, "bool" => true
  | .int, "int" => true
  | .str, "str" => true
  | .tup, "tuple" => true
  | .list, "list" => true
  | _, _ => false

section
variable {C : Cx} {A : Around} {env : Env} {ρ : Rho} {σ : Store} {X : XP} {s : Shared}

/-- how the heap bears a value's type -/
def Bears (s : Shared) (v : Value) : Ty → Prop
  | .none => v = .none
  | .bool => ∃ b, v = .bool b
  | .int => ∃ i t, v = .int i t
  | .str => ∃ x t, v = .str x t
  | .tup => ∃ a o, v = .ref a ∧ s.heap.get? a = some o ∧ o.cls = .type "tuple"
  | .list => ∃ a o, v = .ref a ∧ s.heap.get? a = some o ∧ o.cls = .type "list"
  | .dict => ∃ a o, v = .ref a ∧ s.heap.get? a = some o ∧ o.cls = .type "dict"
theorem HasTy.bears {x : V} {t : Ty} (h : HasTy C σ x t) {v : Value} (S : St C σ s) (r : VR s.heap v x) : Bears s v t := by
  cases h with
  | none => cases r; rfl
  | bool b => cases r; exact ⟨_, rfl⟩
  | int i => cases r; exact ⟨_, _, rfl⟩
  | str i => cases r; exact ⟨_, _, rfl⟩
  | tup xs => cases r with | tup e _ => exact ⟨_, _, rfl, e, rfl⟩
  | list hl =>
    cases r
    obtain ⟨items, ⟨o, e, c, _⟩, _⟩ := hl.raw S
    exact ⟨_, _, rfl, e, c⟩
  | sd hl =>
    cases r
    obtain ⟨kvs, D, _⟩ := S.rep _ _ hl
    obtain ⟨o, e, c⟩ := D.typeIs (s := s)
    exact ⟨_, _, rfl, e, c⟩
  | id hl =>
    cases r
    obtain ⟨kvs, D, _⟩ := S.rep _ _ hl
    obtain ⟨o, e, c⟩ := D.typeIs (s := s)
    exact ⟨_, _, rfl, e, c⟩

theorem isi_raw {v : Value} {t : Ty} {U : String} {Q : Value → Shared → Prop} {E : XP} (b : Bears s v t) (hU : U = "int" ∨ U = "bool" ∨ U = "str" ∨ U = "list" ∨ U = "tuple") (h : ∀ tk, Q (.bool (isiB t U)) { s with toks := tk }) :
    wpAny C.M A (call (.builtin "isinstance") [v, .type U]) Q E s := by
  rcases hU with rfl | rfl | rfl | rfl | rfl
  · cases t with
    | none => subst b; exact call_isinstance (isinstance_false_none (by decide +kernel) F.isi_meta_int F.sub_NoneType_int) (h _)
    | bool => obtain ⟨_, rfl⟩ := b; exact call_isinstance (isinstance_true (Tx := "bool") F.isi_meta_int F.sub_bool_int) ⟨rfl, h s.toks⟩
    | int => obtain ⟨_, _, rfl⟩ := b; exact call_isinstance (isinstance_true (Tx := "int") F.isi_meta_int F.sub_int_int) ⟨rfl, h s.toks⟩
    | str => obtain ⟨_, _, rfl⟩ := b; exact call_isinstance (isinstance_false_str (by decide +kernel) F.isi_meta_int F.sub_str_int) (h _)
    | tup => obtain ⟨a, o, rfl, e, hc⟩ := b; exact call_isinstance (isinstance_false_tuple (by decide +kernel) F.isi_meta_int F.sub_tuple_int) ⟨⟨o, e, hc⟩, h _⟩
    | list => obtain ⟨a, o, rfl, e, hc⟩ := b; exact call_isinstance (isinstance_false_list (by decide +kernel) F.isi_meta_int F.sub_list_int) ⟨⟨o, e, hc⟩, h _⟩
    | dict => obtain ⟨a, o, rfl, e, hc⟩ := b; exact call_isinstance (isinstance_false_dict (by decide +kernel) F.isi_meta_int F.sub_dict_int) ⟨⟨o, e, hc⟩, h _⟩
  · cases t with
    | none => subst b; exact call_isinstance (isinstance_false_none (by decide +kernel) F.isi_meta_bool F.sub_NoneType_bool) (h _)
    | bool => obtain ⟨_, rfl⟩ := b; exact call_isinstance (isinstance_true (Tx := "bool") F.isi_meta_bool F.sub_bool_bool) ⟨rfl, h s.toks⟩
    | int => obtain ⟨_, _, rfl⟩ := b; exact call_isinstance (isinstance_false_int (by decide +kernel) F.isi_meta_bool F.sub_int_bool) (h _)
    | str => obtain ⟨_, _, rfl⟩ := b; exact call_isinstance (isinstance_false_str (by decide +kernel) F.isi_meta_bool F.sub_str_bool) (h _)
    | tup => obtain ⟨a, o, rfl, e, hc⟩ := b; exact call_isinstance (isinstance_false_tuple (by decide +kernel) F.isi_meta_bool F.sub_tuple_bool) ⟨⟨o, e, hc⟩, h _⟩
    | list => obtain ⟨a, o, rfl, e, hc⟩ := b; exact call_isinstance (isinstance_false_list (by decide +kernel) F.isi_meta_bool F.sub_list_bool) ⟨⟨o, e, hc⟩, h _⟩
    | dict => obtain ⟨a, o, rfl, e, hc⟩ := b; exact call_isinstance (isinstance_false_dict (by decide +kernel) F.isi_meta_bool F.sub_dict_bool) ⟨⟨o, e, hc⟩, h _⟩
  · cases t with
    | none => subst b; exact call_isinstance (isinstance_false_none (by decide +kernel) F.isi_meta_str F.sub_NoneType_str) (h _)
    | bool => obtain ⟨_, rfl⟩ := b; exact call_isinstance (isinstance_false_bool (by decide +kernel) F.isi_meta_str F.sub_bool_str) (h _)
    | int => obtain ⟨_, _, rfl⟩ := b; exact call_isinstance (isinstance_false_int (by decide +kernel) F.isi_meta_str F.sub_int_str) (h _)
    | str => obtain ⟨_, _, rfl⟩ := b; exact call_isinstance (isinstance_true (Tx := "str") F.isi_meta_str F.sub_str_str) ⟨rfl, h s.toks⟩
    | tup => obtain ⟨a, o, rfl, e, hc⟩ := b; exact call_isinstance (isinstance_false_tuple (by decide +kernel) F.isi_meta_str F.sub_tuple_str) ⟨⟨o, e, hc⟩, h _⟩
    | list => obtain ⟨a, o, rfl, e, hc⟩ := b; exact call_isinstance (isinstance_false_list (by decide +kernel) F.isi_meta_str F.sub_list_str) ⟨⟨o, e, hc⟩, h _⟩
    | dict => obtain ⟨a, o, rfl, e, hc⟩ := b; exact call_isinstance (isinstance_false_dict (by decide +kernel) F.isi_meta_str F.sub_dict_str) ⟨⟨o, e, hc⟩, h _⟩
  · cases t with
    | none => subst b; exact call_isinstance (isinstance_false_none (by decide +kernel) F.isi_meta_list F.sub_NoneType_list) (h _)
    | bool => obtain ⟨_, rfl⟩ := b; exact call_isinstance (isinstance_false_bool (by decide +kernel) F.isi_meta_list F.sub_bool_list) (h _)
    | int => obtain ⟨_, _, rfl⟩ := b; exact call_isinstance (isinstance_false_int (by decide +kernel) F.isi_meta_list F.sub_int_list) (h _)
    | str => obtain ⟨_, _, rfl⟩ := b; exact call_isinstance (isinstance_false_str (by decide +kernel) F.isi_meta_list F.sub_str_list) (h _)
    | tup => obtain ⟨a, o, rfl, e, hc⟩ := b; exact call_isinstance (isinstance_false_tuple (by decide +kernel) F.isi_meta_list F.sub_tuple_list) ⟨⟨o, e, hc⟩, h _⟩
    | list => obtain ⟨a, o, rfl, e, hc⟩ := b; exact call_isinstance (isinstance_true (Tx := "list") F.isi_meta_list F.sub_list_list) ⟨⟨o, e, hc⟩, h s.toks⟩
    | dict => obtain ⟨a, o, rfl, e, hc⟩ := b; exact call_isinstance (isinstance_false_dict (by decide +kernel) F.isi_meta_list F.sub_dict_list) ⟨⟨o, e, hc⟩, h _⟩
  · cases t with
    | none => subst b; exact call_isinstance (isinstance_false_none (by decide +kernel) F.isi_meta_tuple F.sub_NoneType_tuple) (h _)
    | bool => obtain ⟨_, rfl⟩ := b; exact call_isinstance (isinstance_false_bool (by decide +kernel) F.isi_meta_tuple F.sub_bool_tuple) (h _)
    | int => obtain ⟨_, _, rfl⟩ := b; exact call_isinstance (isinstance_false_int (by decide +kernel) F.isi_meta_tuple F.sub_int_tuple) (h _)
    | str => obtain ⟨_, _, rfl⟩ := b; exact call_isinstance (isinstance_false_str (by decide +kernel) F.isi_meta_tuple F.sub_str_tuple) (h _)
    | tup => obtain ⟨a, o, rfl, e, hc⟩ := b; exact call_isinstance (isinstance_true (Tx := "tuple") F.isi_meta_tuple F.sub_tuple_tuple) ⟨⟨o, e, hc⟩, h s.toks⟩
    | list => obtain ⟨a, o, rfl, e, hc⟩ := b; exact call_isinstance (isinstance_false_list (by decide +kernel) F.isi_meta_tuple F.sub_list_tuple) ⟨⟨o, e, hc⟩, h _⟩
    | dict => obtain ⟨a, o, rfl, e, hc⟩ := b; exact call_isinstance (isinstance_false_dict (by decide +kernel) F.isi_meta_tuple F.sub_dict_tuple) ⟨⟨o, e, hc⟩, h _⟩

theorem CallWP.isi {x : V} {t : Ty} {U : String} {Q : V → Store → Prop} (ht : HasTy C σ x t) (hU : U = "int" ∨ U = "bool" ∨ U = "str" ∨ U = "list" ∨ U = "tuple") (h : Q (.bool (isiB t U)) σ) : CallWP C A (.builtin "isinstance") [x, .typ U] σ Q X := by
  intro s vs S r
  cases r with
  | cons r1 r2 =>
  cases r2 with
  | cons r2 r3 =>
  cases r3; cases r2
  exact isi_raw (ht.bears S r1) hU fun tk => EP.pureT S h (.bool _)

/- list(), tuple() -/
theorem CallWP.listOf {l : Addr} {xs : List V} {Q : V → Store → Prop} (hl : LstAt C σ l xs) (hz : xs.length ≤ sizeLine) (h : ∀ a, σ a = Option.none → Q (.ref a) (σ.upd a (.list xs))) : CallWP C A (.type "list") [.ref l] σ Q X := by
  intro s vs S r
  cases r with
  | cons r1 r2 =>
  cases r2; cases r1
  obtain ⟨items, ⟨o, e, c, n, hd⟩, rl⟩ := hl.raw S
  have el := rl.length
  simp only [Array.length_toList] at el
  refine call_list_seq l (.inl rfl) e c hd (fun h' c' kp e' => ?_) (by omega)
  have S' : St C σ { s with heap := h', toks := s.toks } := S.ext kp
  obtain ⟨S2, e2⟩ := S'.adopt (a := s.heap.objs.size) (o := .list xs) (σ0 := σ) (h0 := s.heap) ⟨items, ⟨c', e'⟩, rl.mono fun _ _ _ q => kp _ _ q⟩ S.size (.ext kp) (get?_fresh _)
  exact ⟨.ref _, _, h _ S.fresh, .ref _, S2, e2⟩
/- len, abs -/
theorem CallWP.len_str {x : Str} {Q : V → Store → Prop} (hz : x.length < 2 ^ 62) (h : Q (.int x.length) σ) : CallWP C A (.builtin "len") [.str x] σ Q X := by
  intro s vs S r
  cases r with
  | cons r1 r2 =>
  cases r2
  cases r1
  exact PyProof.Rows.len_str (by omega) ⟨_, σ, h, .int _ _, S.toks _, .refl ..⟩
end

end Mine

set_option autoImplicit false
set_option linter.unusedVariables false
namespace Mine
open PySem PySem.W PySem.SeqAt

section
variable {C : Cx} {A : Around} {env : Env} {ρ : Rho} {σ : Store} {X : XP} {s : Shared}

/- texts -/
/-- a list of texts -/
theorem strs_of {h : Heap} : ∀ {vs : List Value} {ts : List Str}, VRs h vs (ts.map V.str) → ∃ l : List (Str × Tok), vs = strValues l ∧ l.map (·.1) = ts
  | vs, [], r => by cases r; exact ⟨[], rfl, rfl⟩
  | vs, t :: ts, r => by
    cases r with
    | cons r1 r2 =>
    cases r1 with
    | str _ tk =>
    obtain ⟨l, rfl, rfl⟩ := strs_of r2
    exact ⟨(t, tk) :: l, rfl, rfl⟩
theorem CallWP.join {x : Str} {l : Addr} {ts : List Str} {Q : V → Store → Prop} (hl : LstAt C σ l (ts.map V.str)) (hok : JoinOk x ts = true) (h : Q (.str (Txt.join x ts)) σ) : CallWP C A (.builtin "str.join") [.str x, .ref l] σ Q X := by
  intro s vs S r
  cases r with
  | cons r1 r2 =>
  cases r2 with
  | cons r2 r3 =>
  cases r3; cases r2; cases r1
  obtain ⟨items, il, rl⟩ := hl.raw S
  obtain ⟨lt, e, et⟩ := strs_of rl
  have : items = (strValues lt).toArray := by rw [← e]
  subst this
  exact SC.join il et hok fun _ _ => EP.pureT S h (.str _ _)

/- dicts -/
theorem Ev.dict0 {pos : Pos} {Q : V → Store → Prop} (h : ∀ a, σ a = none → Q (.ref a) (σ.upd a (.sd []))) : Ev C A env (.Dict [] [] pos) ρ σ Q X := by
  intro s S F
  refine wpAny_Dict_empty ?_
  obtain ⟨S2, e2⟩ := S.new (t := s.toks) (x := { cls := .type "dict", data := .dict #[] }) (o := .sd []) ⟨[], Heap.DictOf.new _, .nil⟩
  exact ⟨.ref _, _, h _ S.fresh, .ref _, S2, e2⟩
/-- the store of an item -/
def SetWP (C : Cx) (A : Around) (o i y : V) (σ : Store) (Q : Store → Prop) (X : XP) : Prop :=
  ∀ s a b v, St C σ s → VR s.heap a o → VR s.heap b i → VR s.heap v y → wpAny C.M A (setItem a b v) (fun _ s' => ∃ σ', Q σ' ∧ St C σ' s' ∧ Evo σ s.heap σ' s'.heap) X s
theorem assign_sub (o i : Expr) (pos : Pos) (env : Env) (v : Value) : assign (.Subscript o i pos) env v = (do
    let ov ← holding [v] (eval o env)
    let iv ← holding [v, ov] (eval i env)
    standAt pos
    holding [v, ov, iv] (setItem ov iv v)
    release (match i with | .Slice _ _ none _ => [iv, v, ov] | _ => [v, ov, iv]) []) := rfl
theorem Asg.sub {o i : Expr} {pos : Pos} {y : V} {Q : Rho → Store → Prop} (h : Ev C A env o ρ σ (fun x σ1 => Ev C A env i ρ σ1 (fun z σ2 => SetWP C A x z y σ2 (fun σ3 => Q ρ σ3) X) X) X) : Asg C A env (.Subscript o i pos) y ρ σ Q X := by
  intro s v S F r
  rw [assign_sub]
  refine wpAny_bind (wpAny_holding (wpAny_mono (h s S F) ?_ fun _ _ z => z))
  rintro ov s1 ⟨x, σ1, h1, r1, S1, e1⟩
  refine wpAny_bind (wpAny_holding (wpAny_mono (h1 s1 S1 (F.evo e1)) ?_ fun _ _ z => z))
  rintro iv s2 ⟨z, σ2, h2, r2, S2, e2⟩
  refine wpAny_bind (wpAny_standAt (wpAny_bind (wpAny_holding (wpAny_mono (h2 s2 ov iv v S2 (r1.mono e2.tup) r2 ((r.mono e1.tup).mono e2.tup)) ?_ fun _ _ z => z))))
  rintro _ s3 ⟨σ3, q, S3, e3⟩
  have e := (e1.trans e2).trans e3
  exact PyProof.Rows.wpAny_release' ⟨ρ, σ3, q, S3, F.evo e, e.evoF F.own⟩

theorem SetWP.sd {d : Addr} {es : List (Str × V)} {k : Str} {y : V} {Q : Store → Prop} (hd : σ d = some (.sd es)) (hz : es.length ≤ sizeLine) (h : Q (σ.upd d (.sd (sput es k y)))) : SetWP C A (.ref d) (.str k) y σ Q X := by
  intro s a b v S ra rb rv
  cases ra; cases rb
  obtain ⟨kvs, D, pr⟩ := S.rep _ _ hd
  have hnd : (kvs.map (·.1)).Nodup := by obtain ⟨_, _, _, _, _, _, _, _, hn⟩ := D; exact hn
  refine wpAny_setItem_pairs (knd := strKind C.prog C.w) (k := k) (by show (k == k) = true; simp) D (fun h' D' sb => ?_) (by rw [pr.length]; exact hz)
  have tk : TupKeep s.heap h' := tupKeep_sameBut sb (S.rep _ _ hd).notTup
  obtain ⟨S2, e2⟩ := S.set (t := s.toks + 1) (o' := .sd (sput es k y)) hd sb ⟨_, D', PR.stored (rv.mono tk) (pr.mono tk) hnd⟩
  exact ⟨_, h, S2, e2⟩
def iput : List (Int × V) → Int → V → List (Int × V)
  | [], x, v => [(x, v)]
  | (y, u) :: r, x, v => if x = y then (x, v) :: r else (y, u) :: iput r x v
/- in a dict -/
def SysOk (C : Cx) : Prop := sysModules < C.n₀ ∧ sysModules ∉ C.tabs
end

end Mine

set_option autoImplicit false
set_option linter.unusedVariables false
namespace Mine
open PySem PySem.W PySem.SeqAt PyProof.Rows

theorem top_exists (h : Heap) : ∀ n, (∀ b o, h.get? b = some o → b < n) → ∃ m, (∀ b o, h.get? b = some o → b < m) ∧ ∀ k, m = k + 1 → ∃ o, h.get? k = some o
  | 0, hn => ⟨0, hn, fun k e => by cases e⟩
  | n + 1, hn => by
    cases q : h.get? n with
    | some o => exact ⟨n + 1, hn, fun k e => by cases e; exact ⟨o, q⟩⟩
    | none =>
      refine top_exists h n fun b o e => ?_
      have := hn b o e
      rcases Nat.lt_or_eq_of_le (Nat.le_of_lt_succ this) with z | z
      · exact z
      · rw [z, q] at e; cases e

theorem ints_VRs {h : Heap} : ∀ {vs : List Value} {ns : List Int}, IntsAre vs ns → VRs h vs (ns.map V.int)
  | [], ns, hI => by
    cases ns with
    | nil => exact .nil
    | cons _ _ => have := hI.length; simp at this
  | v :: vs, ns, hI => by
    cases ns with
    | nil => have := hI.length; simp at this
    | cons n ns =>
      cases hI with
      | cons _ h2 => exact .cons (.int _ _) (ints_VRs (by assumption))

/-- the same with one table of codes laid aside -/
theorem glueT {prog : Program} {w : World} {s₁ : Shared} {K : Frag} {p : Program} {loose : List Str} {mean : ExcName → Option Value} {mg mb : Str → Option Value} {l fa c P : Addr} {pos : Pos} {q : Str} {vs : List Value} {ns : List Int} (KX : K.In s₁.heap) (T : Top p loose mean mg mb s₁.heap)
    (hT : CodeHd s₁.heap c P) (hP : s₁.heap.get? P = some (tabObj #[])) (hK : noTabs K = true) (hPs : P ≠ sysModules) (gens : s₁.gens = #[]) (hl : s₁.heap.IsList l vs.toArray) (hI : IntsAre vs ns)
    (h : ∀ C : Cx, C.prog = prog → C.w = w → C.K = K → SysOk C → BaseL C l (ns.map V.int) → CodeHd C.h₀ c P → (∃ bm ob, C.mg "__builtins__" = some (.ref bm) ∧ bm ≠ builtinsNs ∧ C.h₀.get? bm = some ob ∧ ob.cls = .type "module" ∧ ob.dict = some builtinsNs ∧ ob.data = .plain) →
      CallWP C callerA (.ref fa) [.ref l] (Store.upd (fun _ => none) P (.tab pos q)) (fun v σ' => v = .bool true ∧ ∃ o, σ' P = some o ∧ ∃ pos' q', o = .tab pos' q') (fun _ _ => False)) :
    wpAny (model prog w) callerA (call (.ref fa) [.ref l]) (fun v s' => v = .bool true ∧ OldK s₁.heap s'.heap ∧ s'.os = s₁.os ∧ AllBare s'.gens) (fun _ _ => False) s₁ := by
  have hTs : TabsAt [(c, P)] s₁.heap := fun z hz => by
    rcases List.mem_cons.mp hz with rfl | hz
    · exact ⟨hT, hP⟩
    · cases hz
  have hgo := ghost_top hTs T
  obtain ⟨n, hn1, hn2⟩ := top_exists (ghostOf s₁.heap [(c, P)]) (ghostOf s₁.heap [(c, P)]).objs.size fun b o e => Heap.lt_size e
  have h0 : sysModules < n := by
    obtain ⟨o, es, ep, ho, _⟩ := hgo.g
    have := hn1 _ _ ho
    exact Nat.lt_trans (by decide) this
  have hPn : (ghostOf s₁.heap [(c, P)]).get? P = none := hideAll_none _ (by simp)
  have := h ⟨prog, w, ghostOf s₁.heap [(c, P)], s₁.gens, s₁.os, n, hn1, hn2, K, ghost_K hTs KX hK, mg, mb, hgo.g, hgo.b, hgo.builtins, hgo.nolimit, [P]⟩ rfl rfl rfl ⟨h0, fun z => by
      rcases List.mem_cons.mp z with z | z
      · exact hPs z.symm
      · cases z⟩ ⟨vs.toArray, ghost_list hTs hl, by simpa using ints_VRs hI⟩ (ghost_code hTs).1 hgo.bmain s₁ [.ref l]
    ⟨fun _ _ e => of_hideAll _ e, fun a o e => ?_, fun a o e => ?_, rfl, rfl⟩ (.cons (.ref _) .nil)
  · refine wpAny_mono this ?_ fun _ _ z => z
    rintro v s' ⟨x, σ', ⟨rfl, o, e1, pos', q', rfl⟩, r, S, e⟩
    cases r
    have keep : ∀ b o, b ≠ P → s₁.heap.get? b = some o → s'.heap.get? b = some o := fun b o hb e => S.base b o (ghost_ne e (by simpa using hb))
    obtain ⟨ps, hps⟩ : ∃ ps, s'.heap.get? P = some (tabObj ps) := by
      rcases S.rep _ _ e1 with z | ⟨_, _, _, _, z, _⟩
      · exact ⟨_, z⟩
      · exact ⟨_, z⟩
    refine ⟨rfl, ⟨fun b o eb => ?_, fun b o eb => ?_⟩, S.os, .of_eq (S.gens.trans gens)⟩
    · by_cases hb : b = P
      · subst hb
        rw [hP] at eb; cases eb
        exact .inr (.inl ⟨(hT.tab hP).isCodeTable, rfl, #[], ps, rfl, by rw [Array.empty_append]; exact hps⟩)
      · exact .inl (keep b o hb eb)
    · by_cases hb : b = P
      · subst hb; exact ⟨_, hps⟩
      · exact ⟨o, keep b o hb eb⟩
  · by_cases z : a = P
    · subst z
      rw [Store.upd_self] at e; cases e
      exact .inl hP
    · rw [Store.upd_ne _ _ z] at e; cases e
  · by_cases z : a = P
    · subst z; exact ⟨hPn, .inr (by simp)⟩
    · rw [Store.upd_ne _ _ z] at e; cases e
end Mine

set_option autoImplicit false
set_option linter.unusedVariables false
namespace Mine
open PySem PySem.W PySem.SeqAt PyProof.Rows

section
variable {C : Cx} {A : Around} {env : Env} {ρ : Rho} {σ : Store} {X : XP} {s : Shared}

theorem ofS_ne {a b : String} (h : a ≠ b) : Str.ofString a ≠ Str.ofString b := by
  intro e
  rw [Str.ofString_eq_toList, Str.ofString_eq_toList] at e
  injection e with e
  have e1 : a.toList.map Char.toNat = b.toList.map Char.toNat := by
    have := congrArg Array.toList e; simpa using this
  have inj : Function.Injective Char.toNat := fun x y hxy => by
    have : x.val.toNat = y.val.toNat := hxy
    exact Char.ext (UInt32.toNat_inj.mp this)
  have e2 : a.toList = b.toList := by
    have : ∀ (l m : List Char), l.map Char.toNat = m.map Char.toNat → l = m := by
      intro l
      induction l with
      | nil => intro m hm; cases m with | nil => rfl | cons _ _ => simp at hm
      | cons x l ih =>
        intro m hm
        cases m with
        | nil => simp at hm
        | cons y m =>
          simp only [List.map_cons, List.cons.injEq] at hm
          rw [inj hm.1, ih m hm.2]
    exact this _ _ e1
  exact h (by rw [← String.ofList_toList (s := a), ← String.ofList_toList (s := b), e2])

/-- a call of a def of the text -/
theorem CallWP.fnK {f : Addr} {name qual : Str} {params : Arguments} {body : List Stmt} {scope : Scope} {dV kV doc pm cdv ct oc : Value} {an od : Option Addr} {osl : Array (Option Value)} {names : List Str} {args : List V} {Q : V → Store → Prop}
    (ho : C.K.lookup f = some ⟨oc, od, .func (fnOf name qual params body scope dV kV doc pm an cdv ct), osl⟩) (hcd : codeIn C.K cdv qual = true)
    (hroom : A.depth < recursionLimit)
    (h : ∀ L, Exs C (A.deeper (callEnvC (fnOf name qual params body scope dV kV doc pm an cdv ct) L f)) (callEnvC (fnOf name qual params body scope dV kV doc pm an cdv ct) L f) body (names.zip args) σ (fun g _ σ' => Q g.val σ') (fun _ _ => False))
    (hbind : ∀ vals : List Value, vals.length = args.length → bindArgs (fnOf name qual params body scope dV kV doc pm an cdv ct) ⟨vals, []⟩ = pure (names.zip vals)) (nd : names.Nodup)
    (hkind : (names.all fun y => scope.names.lookup y == some .local || scope.names.lookup y == some .cell) = true) (hsc : scopeOk scope = true) (hco : scope.isCoroutine = false) (hgen : scope.isGenerator = false) (hk : scope.kind = .function) :
    CallWP C A (.ref f) args σ Q X := by
  refine CallWP.fn (C.KX _ _ ho) rfl C.lim (codeRec_of C.KX hcd) rfl hbind rfl nd (fun x hx => ?_) hroom hsc hco hgen hk h
  have := List.all_eq_true.mp hkind x hx
  rcases Bool.or_eq_true_iff.mp this with q | q
  · exact .inl (by simpa using q)
  · have q' : scope.names.lookup x = some .cell := by simpa using q
    exact .inr ⟨q', fun L => cellsFrom_some _ _ _ (.inl q')⟩
end
end Mine

set_option autoImplicit false
set_option linter.unusedVariables false
namespace Mine
open PySem PySem.W PySem.SeqAt PyProof.Rows

/-- a frame's surroundings, its table of names apart -/
abbrev mkE (sc : Scope) (L : Addr) (cells : List (Str × Addr)) (q : Str) (fn : Option Addr) (cd : Value) (fr : Option Addr) : Env :=
  { scope := sc, locals := L, globals := mainGlobals, cells := cells, qual := q, func := fn, code := cd, frame := fr, builtins := builtinsNs }
/-- a comprehension's table of names -/
def reS (scope sc : Scope) : Scope := { scope with names := scope.names.map fun (n, k) => if (k == .free && sc.kind == .function && sc.names.lookup n == some .cell) then (n, .cell) else (n, k) }
section
variable {C : Cx} {A : Around} {ρ : Rho} {σ : Store} {X : XP} {s : Shared} {sc : Scope} {L : Addr} {cells : List (Str × Addr)} {q : Str} {fn : Option Addr} {cd : Value} {fr : Option Addr}

theorem Ev.nloc {x : Str} {pos : Pos} {v : V} {Q : V → Store → Prop} (hk : sc.names.lookup x = some .local) (hv : ρ.get x = some v) (h : Q v σ) (hd : (x == ("__debug__" : Str)) = false := by kernel_rfl) : Ev C A (mkE sc L cells q fn cd fr) (.Name x pos) ρ σ Q X :=
  Ev.loc hk hv h hd
theorem Ev.ncel {x : Str} {pos : Pos} {v : V} {Q : V → Store → Prop} (hk : sc.names.lookup x = some .cell) (hv : ρ.get x = some v) (h : Q v σ) (hc : (cells.lookup x).isSome = true := by kernel_rfl) (hd : (x == ("__debug__" : Str)) = false := by kernel_rfl) : Ev C A (mkE sc L cells q fn cd fr) (.Name x pos) ρ σ Q X := by
  obtain ⟨c, hc⟩ := Option.isSome_iff_exists.mp hc
  exact Ev.cel hk hc hv h hd
theorem Ev.nglob {x : Str} {pos : Pos} {v : Value} {y : V} {Q : V → Store → Prop} (hk : sc.names.lookup x = some .globalImplicit) (e : nsIn C.K mainGlobals x = some (some v)) (r : VR C.h₀ v y) (h : Q y σ) (hd : (x == ("__debug__" : Str)) = false := by kernel_rfl) :
    Ev C A (mkE sc L cells q fn cd fr) (.Name x pos) ρ σ Q X := Ev.glob hk e r h rfl hd
theorem Ev.nblt {x : Str} {pos : Pos} {v : Value} {y : V} {Q : V → Store → Prop} (hk : sc.names.lookup x = some .globalImplicit) (e : nsIn C.K mainGlobals x = some none) (hv : bootBuiltins x = some v) (r : VR C.h₀ v y) (h : Q y σ) (hn : x ≠ "__name__") (hd : (x == ("__debug__" : Str)) = false := by kernel_rfl) :
    Ev C A (mkE sc L cells q fn cd fr) (.Name x pos) ρ σ Q X := Ev.gblt hk e hv r h hn rfl rfl hd
theorem Asg.nloc {x : Str} {pos : Pos} {y : V} {ρ' : Rho} {Q : Rho → Store → Prop} (hk : sc.names.lookup x = some .local) (hp : ρ.put x y = ρ') (h : Q ρ' σ) (hc : cells.lookup x = none := by kernel_rfl) :
    Asg C A (mkE sc L cells q fn cd fr) (.Name x pos) y ρ σ Q X := Asg.loc hk hc hp h
theorem Asg.ncel {x : Str} {pos : Pos} {y : V} {ρ' : Rho} {Q : Rho → Store → Prop} (hk : sc.names.lookup x = some .cell) (hp : ρ.put x y = ρ') (h : Q ρ' σ) (hc : (cells.lookup x).isSome = true := by kernel_rfl) :
    Asg C A (mkE sc L cells q fn cd fr) (.Name x pos) y ρ σ Q X := by
  obtain ⟨c, hc⟩ := Option.isSome_iff_exists.mp hc
  exact Asg.cel hk hc hp h

theorem Then.next {env : Env} {ss : List Stmt} {Q : FV → Rho → Store → Prop} (h : Exs C A env ss ρ σ Q X) : Then C A env ss Q X .next ρ σ := h
theorem Then.ret {env : Env} {ss : List Stmt} {v : V} {Q : FV → Rho → Store → Prop} (h : Q (.ret v) ρ σ) : Then C A env ss Q X (.ret v) ρ σ := h
/-- a call of a def of the text -/
theorem CallWP.def {f : Addr} {name qual : Str} {params : Arguments} {body : List Stmt} {scope : Scope} {dV kV doc pm cdv ct oc : Value} {an od : Option Addr} {osl : Array (Option Value)} (names : List Str) {args : List V} {Q : V → Store → Prop}
    (ho : C.K.lookup f = some ⟨oc, od, .func (fnOf name qual params body scope dV kV doc pm an cdv ct), osl⟩) (hcd : codeIn C.K cdv qual = true)
    (hroom : A.depth < recursionLimit)
    (hbind : ∀ vals : List Value, vals.length = args.length → bindArgs (fnOf name qual params body scope dV kV doc pm an cdv ct) ⟨vals, []⟩ = pure (names.zip vals)) (nd : names.Nodup)
    (hkind : (names.all fun y => scope.names.lookup y == some .local || scope.names.lookup y == some .cell) = true) (hsc : scopeOk scope = true) (hco : scope.isCoroutine = false) (hgen : scope.isGenerator = false) (hk : scope.kind = .function)
    (h : ∀ L A', A'.handled = A.handled → A'.depth = A.depth + 1 → A'.units = A.units + 3 → Exs C A' (mkE scope L (cellsFrom (L + 1) scope.names []) (qual ++ ".<locals>.") (some f) cdv (some L)) body (names.zip args) σ (fun g _ σ' => Q g.val σ') (fun _ _ => False)) :
    CallWP C A (.ref f) args σ Q X :=
  CallWP.fnK ho hcd hroom (fun L => h L _ rfl rfl rfl) hbind nd hkind hsc hco hgen hk

/-- a comprehension -/
theorem Ev.lcomp {x : Str} {px pos : Pos} {elt iter : Expr} {ifs : List Expr} {scope : Scope} {ρc : Rho} {Q : V → Store → Prop} (cap : Capt ρ scope.names ρc) (hx : scope.names.lookup x = some .local) (hck : compOk scope = true) (hk : scope.kind = .function)
    (h : Src C A (mkE sc L cells q fn cd fr) (.Name x px) iter ρ σ (fun xs ok σ1 => ∀ L', CmpL C A (mkE (reS scope sc) L' (clOf cells scope.names []) q none cd fr) x ifs elt ok ρc (fun out σ2 => ∀ a, σ2 a = Option.none → Q (.ref a) (σ2.upd a (.list out))) xs [] σ1) X)
    (hfree : (scope.names.all fun p => p.2 != .free || (cells.lookup p.1).isSome) = true := by kernel_rfl) 
    (hs : ∀ x, foldedSetIterable iter (mkE sc L cells q fn cd fr) x = Pure.pure x := by intro _; kernel_rfl) : Ev C A (mkE sc L cells q fn cd fr) (.ListComp elt [⟨.Name x px, iter, ifs, 0⟩] scope pos) ρ σ Q X :=
  Ev.comp hfree hck hk hx cap h hs
theorem Ex.lassign {x y : Str} {px py pos spos : Pos} {elt iter : Expr} {ifs : List Expr} {scope : Scope} {ρc : Rho} {Q : FV → Rho → Store → Prop} (cap : Capt ρ scope.names ρc) (hx : scope.names.lookup x = some .local) (hck : compOk scope = true) (hk : scope.kind = .function)
    (hy : sc.names.lookup y = some .local)
    (h : Src C A (mkE sc L cells q fn cd fr) (.Name x px) iter ρ σ (fun xs ok σ1 => ∀ L', CmpL C A (mkE (reS scope sc) L' (clOf cells scope.names []) q none cd fr) x ifs elt ok ρc (fun out σ2 => ∀ a, σ2 a = none → Q .next (ρ.put y (.ref a)) (σ2.upd a (.list out))) xs [] σ1) X)
    (hsw : swapsWith (.ListComp elt [⟨.Name x px, iter, ifs, 0⟩] scope pos) (some (.Name y py)) spos.line (mkE sc L cells q fn cd fr) = pure true := by kernel_rfl)
    (hfree : (scope.names.all fun p => p.2 != .free || (cells.lookup p.1).isSome) = true := by kernel_rfl) (hyc : cells.lookup y = none := by kernel_rfl)
    (hs : ∀ x, foldedSetIterable iter (mkE sc L cells q fn cd fr) x = pure x := by intro _; kernel_rfl) : Ex C A (mkE sc L cells q fn cd fr) (.Assign [.Name y py] (.ListComp elt [⟨.Name x px, iter, ifs, 0⟩] scope pos) spos) ρ σ Q X :=
  Ex.assignComp hfree hck hk hx cap hy hyc h hsw hs

/-- f(args): f a def or a class of the text -/
theorem Ev.callR {func : Expr} {args : List Expr} {pos : Pos} {Q : V → Store → Prop} {env : Env}
    (h : Ev C A env func ρ σ (fun fx σ1 => ∃ f, fx = .ref f ∧ keepIn C.K (.ref f) = true ∧ Ags C A env pos args ρ σ1 (fun xs σ2 => CallWP C A (.ref f) xs σ2 Q X) X) X)
    (hev : eval (.Call func args [] pos) env = (do callWith pos (← eval func env) [] (backTo pos (starEach args env)) (backToKw pos (keywordEach [] env))) := by kernel_rfl)
    (he : (backTo pos (starEach args env)).any (·.1) = false := by kernel_rfl) : Ev C A env (.Call func args [] pos) ρ σ Q X := by
  intro s S F
  rw [hev]
  refine wpAny_bind (wpAny_mono (h s S F) ?_ fun _ _ z => z)
  rintro v s1 ⟨x, σ1, ⟨f, rfl, kp, q⟩, r1, S1, e1⟩
  cases r1
  exact wpAny_mono (callWith_mine (first := []) (fx := []) (Kp.ref kp) S1 (F.evo e1) .nil q he) (fun _ _ z => z.after e1) fun _ _ z => z
/-- f(args): f a built-in, or a built-in class -/
theorem Ev.callB {func : Expr} {args : List Expr} {pos : Pos} {Q : V → Store → Prop} {env : Env}
    (h : Ev C A env func ρ σ (fun fx σ1 => ∃ f, (fx = .blt f ∧ Ags C A env pos args ρ σ1 (fun xs σ2 => CallWP C A (.builtin f) xs σ2 Q X) X) ∨ (fx = .typ f ∧ Ags C A env pos args ρ σ1 (fun xs σ2 => CallWP C A (.type f) xs σ2 Q X) X)) X)
    (hev : eval (.Call func args [] pos) env = (do callWith pos (← eval func env) [] (backTo pos (starEach args env)) (backToKw pos (keywordEach [] env))) := by kernel_rfl)
    (he : (backTo pos (starEach args env)).any (·.1) = false := by kernel_rfl) : Ev C A env (.Call func args [] pos) ρ σ Q X := by
  intro s S F
  rw [hev]
  refine wpAny_bind (wpAny_mono (h s S F) ?_ fun _ _ z => z)
  rintro v s1 ⟨x, σ1, ⟨f, (⟨rfl, q⟩ | ⟨rfl, q⟩)⟩, r1, S1, e1⟩
  · cases r1
    exact wpAny_mono (callWith_mine (first := []) (fx := []) Kp.blt S1 (F.evo e1) .nil q he) (fun _ _ z => z.after e1) fun _ _ z => z
  · cases r1
    exact wpAny_mono (callWith_mine (first := []) (fx := []) Kp.typ S1 (F.evo e1) .nil q he) (fun _ _ z => z.after e1) fun _ _ z => z
end
end Mine
namespace Mine
open PySem PySem.W
theorem CmpL.pure {C : Cx} {A : Around} {env : Env} {x : Str} {ifs : List Expr} {elt : Expr} {ok : Store → Prop} {ρ : Rho} {R : List V → Store → Prop} {σ : Store} (p : V → Bool) (f : V → V) (hok : ok σ) :
    ∀ (ys out : List V), (∀ y ∈ ys, ∀ Q : Bool → Store → Prop, Q (p y) σ → Ifs C A env ifs (ρ.put x y) σ Q (fun _ _ => False)) → (∀ y ∈ ys, p y = true → ∀ Q : V → Store → Prop, Q (f y) σ → Ev C A env elt (ρ.put x y) σ Q (fun _ _ => False)) →
    out.length + ys.length ≤ sizeLine → R (out ++ (ys.filter p).map f) σ → CmpL C A env x ifs elt ok ρ R ys out σ
  | [], out, _, _, _, h => by simpa [CmpL] using h
  | y :: ys, out, h1, h2, hz, h => by
    unfold CmpL
    refine h1 y (.head _) _ ?_
    simp only [List.length_cons] at hz
    cases q : p y with
    | true =>
      simp only [if_true]
      refine h2 y (.head _) q _ ⟨by omega, hok, ?_⟩
      refine CmpL.pure p f hok ys (out ++ [f y]) (fun z hz => h1 z (.tail _ hz)) (fun z hz => h2 z (.tail _ hz)) (by simp; omega) ?_
      simpa [List.filter_cons, q] using h
    | false =>
      simp only [Bool.false_eq_true, if_false]
      refine ⟨hok, CmpL.pure p f hok ys out (fun z hz => h1 z (.tail _ hz)) (fun z hz => h2 z (.tail _ hz)) (by omega) ?_⟩
      simpa [List.filter_cons, q] using h
theorem Ifs.nil {C : Cx} {A : Around} {env : Env} {ρ : Rho} {σ : Store} {X : XP} {Q : Bool → Store → Prop} (h : Q true σ) : Ifs C A env [] ρ σ Q X := h
theorem Ifs.one {C : Cx} {A : Around} {env : Env} {ρ : Rho} {σ : Store} {X : XP} {c : Expr} {Q : Bool → Store → Prop} (h : Tst C A env c ρ σ Q X) : Ifs C A env [c] ρ σ Q X := h
end Mine

/- arities -/
namespace Mine
open PySem PySem.W PySem.SeqAt PyProof.Rows
section
variable {C : Cx} {A : Around} {σ : Store} {X : XP}
theorem CallWP.def1 (x1 : Str) {f : Addr} {name qual : Str} {params : Arguments} {body : List Stmt} {scope : Scope} {dV kV doc pm cdv ct oc : Value} {an od : Option Addr} {osl : Array (Option Value)} {v1 : V} {Q : V → Store → Prop}
    (ho : C.K.lookup f = some ⟨oc, od, .func (fnOf name qual params body scope dV kV doc pm an cdv ct), osl⟩) (hcd : codeIn C.K cdv qual = true) (hroom : A.depth < recursionLimit)
    (hbind : ∀ u1 : Value, bindArgs (fnOf name qual params body scope dV kV doc pm an cdv ct) ⟨[u1], []⟩ = pure [(x1, u1)]) (nd : ([x1] : List Str).Nodup)
    (hkind : (([x1] : List Str).all fun y => scope.names.lookup y == some .local || scope.names.lookup y == some .cell) = true) (hsc : scopeOk scope = true) (hco : scope.isCoroutine = false) (hgen : scope.isGenerator = false) (hk : scope.kind = .function)
    (h : ∀ L A', A'.handled = A.handled → A'.depth = A.depth + 1 → A'.units = A.units + 3 → Exs C A' (mkE scope L (cellsFrom (L + 1) scope.names []) (qual ++ ".<locals>.") (some f) cdv (some L)) body [(x1, v1)] σ (fun g _ σ' => Q g.val σ') (fun _ _ => False)) :
    CallWP C A (.ref f) [v1] σ Q X :=
  CallWP.def [x1] (args := [v1]) ho hcd hroom (fun vals hl => by match vals, hl with | [u1], _ => exact hbind u1) nd hkind hsc hco hgen hk h
theorem CallWP.def2 (x1 x2 : Str) {f : Addr} {name qual : Str} {params : Arguments} {body : List Stmt} {scope : Scope} {dV kV doc pm cdv ct oc : Value} {an od : Option Addr} {osl : Array (Option Value)} {v1 v2 : V} {Q : V → Store → Prop}
    (ho : C.K.lookup f = some ⟨oc, od, .func (fnOf name qual params body scope dV kV doc pm an cdv ct), osl⟩) (hcd : codeIn C.K cdv qual = true) (hroom : A.depth < recursionLimit)
    (hbind : ∀ u1 u2 : Value, bindArgs (fnOf name qual params body scope dV kV doc pm an cdv ct) ⟨[u1, u2], []⟩ = pure [(x1, u1), (x2, u2)]) (nd : ([x1, x2] : List Str).Nodup)
    (hkind : (([x1, x2] : List Str).all fun y => scope.names.lookup y == some .local || scope.names.lookup y == some .cell) = true) (hsc : scopeOk scope = true) (hco : scope.isCoroutine = false) (hgen : scope.isGenerator = false) (hk : scope.kind = .function)
    (h : ∀ L A', A'.handled = A.handled → A'.depth = A.depth + 1 → A'.units = A.units + 3 → Exs C A' (mkE scope L (cellsFrom (L + 1) scope.names []) (qual ++ ".<locals>.") (some f) cdv (some L)) body [(x1, v1), (x2, v2)] σ (fun g _ σ' => Q g.val σ') (fun _ _ => False)) :
    CallWP C A (.ref f) [v1, v2] σ Q X :=
  CallWP.def [x1, x2] (args := [v1, v2]) ho hcd hroom (fun vals hl => by match vals, hl with | [u1, u2], _ => exact hbind u1 u2) nd hkind hsc hco hgen hk h
theorem CallWP.def3 (x1 x2 x3 : Str) {f : Addr} {name qual : Str} {params : Arguments} {body : List Stmt} {scope : Scope} {dV kV doc pm cdv ct oc : Value} {an od : Option Addr} {osl : Array (Option Value)} {v1 v2 v3 : V} {Q : V → Store → Prop}
    (ho : C.K.lookup f = some ⟨oc, od, .func (fnOf name qual params body scope dV kV doc pm an cdv ct), osl⟩) (hcd : codeIn C.K cdv qual = true) (hroom : A.depth < recursionLimit)
    (hbind : ∀ u1 u2 u3 : Value, bindArgs (fnOf name qual params body scope dV kV doc pm an cdv ct) ⟨[u1, u2, u3], []⟩ = pure [(x1, u1), (x2, u2), (x3, u3)]) (nd : ([x1, x2, x3] : List Str).Nodup)
    (hkind : (([x1, x2, x3] : List Str).all fun y => scope.names.lookup y == some .local || scope.names.lookup y == some .cell) = true) (hsc : scopeOk scope = true) (hco : scope.isCoroutine = false) (hgen : scope.isGenerator = false) (hk : scope.kind = .function)
    (h : ∀ L A', A'.handled = A.handled → A'.depth = A.depth + 1 → A'.units = A.units + 3 → Exs C A' (mkE scope L (cellsFrom (L + 1) scope.names []) (qual ++ ".<locals>.") (some f) cdv (some L)) body [(x1, v1), (x2, v2), (x3, v3)] σ (fun g _ σ' => Q g.val σ') (fun _ _ => False)) :
    CallWP C A (.ref f) [v1, v2, v3] σ Q X :=
  CallWP.def [x1, x2, x3] (args := [v1, v2, v3]) ho hcd hroom (fun vals hl => by match vals, hl with | [u1, u2, u3], _ => exact hbind u1 u2 u3) nd hkind hsc hco hgen hk h
theorem CallWP.def4 (x1 x2 x3 x4 : Str) {f : Addr} {name qual : Str} {params : Arguments} {body : List Stmt} {scope : Scope} {dV kV doc pm cdv ct oc : Value} {an od : Option Addr} {osl : Array (Option Value)} {v1 v2 v3 v4 : V} {Q : V → Store → Prop}
    (ho : C.K.lookup f = some ⟨oc, od, .func (fnOf name qual params body scope dV kV doc pm an cdv ct), osl⟩) (hcd : codeIn C.K cdv qual = true) (hroom : A.depth < recursionLimit)
    (hbind : ∀ u1 u2 u3 u4 : Value, bindArgs (fnOf name qual params body scope dV kV doc pm an cdv ct) ⟨[u1, u2, u3, u4], []⟩ = pure [(x1, u1), (x2, u2), (x3, u3), (x4, u4)]) (nd : ([x1, x2, x3, x4] : List Str).Nodup)
    (hkind : (([x1, x2, x3, x4] : List Str).all fun y => scope.names.lookup y == some .local || scope.names.lookup y == some .cell) = true) (hsc : scopeOk scope = true) (hco : scope.isCoroutine = false) (hgen : scope.isGenerator = false) (hk : scope.kind = .function)
    (h : ∀ L A', A'.handled = A.handled → A'.depth = A.depth + 1 → A'.units = A.units + 3 → Exs C A' (mkE scope L (cellsFrom (L + 1) scope.names []) (qual ++ ".<locals>.") (some f) cdv (some L)) body [(x1, v1), (x2, v2), (x3, v3), (x4, v4)] σ (fun g _ σ' => Q g.val σ') (fun _ _ => False)) :
    CallWP C A (.ref f) [v1, v2, v3, v4] σ Q X :=
  CallWP.def [x1, x2, x3, x4] (args := [v1, v2, v3, v4]) ho hcd hroom (fun vals hl => by match vals, hl with | [u1, u2, u3, u4], _ => exact hbind u1 u2 u3 u4) nd hkind hsc hco hgen hk h
end
end Mine

set_option autoImplicit false
set_option linter.unusedVariables false
namespace Mine
open PySem PySem.W PySem.SeqAt PyProof.Rows

theorem Rho.gp_hit {x : Str} {v : V} {r : Rho} : Rho.get (Rho.put r x v) x = some v := by rw [Rho.get_put]; simp
theorem Rho.gp_miss {x y : Str} {v : V} {u : Option V} {r : Rho} (h : y ≠ x) (k : Rho.get r y = u) : Rho.get (Rho.put r x v) y = u := by rw [Rho.get_put, if_neg h, k]

section
variable {C : Cx} {A : Around} {env : Env} {ρ : Rho} {σ : Store} {X : XP} {s : Shared}

/- {"a": .., "b": ..} -/
inductive KVR (h : Heap) : List (Value × Value) → List (Str × V) → Prop
  | nil : KVR h [] []
  | cons {k : Str} {t : Tok} {v : Value} {x : V} {r : List (Value × Value)} {r' : List (Str × V)} : VR h v x → KVR h r r' → KVR h ((.str k t, v) :: r) ((k, x) :: r')
def Prs (C : Cx) (A : Around) (env : Env) (pos : Pos) (ks : List (Option Expr)) (vs : List Expr) (ρ : Rho) (σ : Store) (Q : List (Str × V) → Store → Prop) (X : XP) : Prop :=
  ∀ s, St C σ s → Fm C σ s.heap env ρ → wpAny C.M A (evalPairs (pairTrees ks vs env pos)) (fun r s' => ∃ xs σ', Q xs σ' ∧ KVR s'.heap r xs ∧ St C σ' s' ∧ Evo σ s.heap σ' s'.heap) X s
/- pop() -/
/- all(), any() over a list of truths -/
theorem small_le {n : Nat} (h : Nat.ble n sizeLine = true) : n ≤ sizeLine := Nat.le_of_ble_eq_true h
theorem Szs.mk {xs : List V} {P : Prop} (h : xs.length ≤ sizeLine) (k : P) : xs.length ≤ sizeLine ∧ P := ⟨h, k⟩
theorem Br.t {b : Bool} {p q : Prop} (hb : b = true) (h : p) : if b = true then p else q := by rw [if_pos hb]; exact h
theorem Br.f {b : Bool} {p q : Prop} (hb : b = false) (h : q) : if b = true then p else q := by rw [if_neg (by simp [hb])]; exact h
theorem ItemWP.tup0 {x : V} {xs : List V} {Q : V → Store → Prop} (h : Q x σ) : ItemWP C A (.tup (x :: xs)) (.int 0) σ Q X :=
  ItemWP.tup (j := 0) (by decide) (by decide) (by rw [seqIndex_of (by omega) (by simp)]; rfl) rfl h
theorem ItemWP.tup1 {x y : V} {xs : List V} {Q : V → Store → Prop} (h : Q x σ) : ItemWP C A (.tup (y :: x :: xs)) (.int 1) σ Q X :=
  ItemWP.tup (j := 1) (by decide) (by decide) (by rw [seqIndex_of (by omega) (by simp; omega)]; rfl) rfl h
theorem ItemWP.tup2 {x y z : V} {xs : List V} {Q : V → Store → Prop} (h : Q x σ) : ItemWP C A (.tup (y :: z :: x :: xs)) (.int 2) σ Q X :=
  ItemWP.tup (j := 2) (by decide) (by decide) (by rw [seqIndex_of (by omega) (by simp; omega)]; rfl) rfl h
end
end Mine

set_option autoImplicit false
set_option linter.unusedVariables false
namespace Mine
open PySem PySem.W PySem.SeqAt PyProof.Rows

/- stores -/
def Grow (σ σ' : Store) : Prop := ∀ b o, σ b = some o → σ' b = some o
theorem Grow.rfl' {σ : Store} : Grow σ σ := fun _ _ e => e
theorem Grow.trans {σ1 σ2 σ3 : Store} (a : Grow σ1 σ2) (b : Grow σ2 σ3) : Grow σ1 σ3 := fun x o e => b x o (a x o e)
theorem Store.hit {σ : Store} {a : Addr} {o : O} : (σ.upd a o) a = some o := by simp [Store.upd]
theorem Store.miss {σ : Store} {a b : Addr} {o : O} {r : Option O} (h : b ≠ a) (k : σ b = r) : (σ.upd a o) b = r := by simp [Store.upd, h, k]
theorem Store.at_fresh {σ : Store} {a b : Addr} {o o' : O} (h : σ a = none) (k : σ b = some o') : (σ.upd a o) b = some o' := Store.miss (fun e => by rw [e, h] at k; cases k) k
theorem Grow.fresh {σ σ' : Store} {a : Addr} {o : O} (g : Grow σ σ') (h : σ' a = none) : Grow σ (σ'.upd a o) := fun b o' e => Store.at_fresh h (g b o' e)
theorem Grow.upd {σ σ' : Store} {a : Addr} {o : O} (g : Grow σ σ') (h : σ a = none) : Grow σ (σ'.upd a o) := fun b o' e => Store.miss (fun q => by rw [q, h] at e; cases e) (g b o' e)
theorem Grow.none {σ σ' : Store} {a : Addr} (g : Grow σ σ') (h : σ' a = none) : σ a = none := by
  cases q : σ a with
  | none => rfl
  | some o => rw [g a o q] at h; cases h

section
variable {C : Cx} {A : Around} {env : Env} {ρ : Rho} {σ : Store} {X : XP} {s : Shared}
theorem Asg.mono {t : Expr} {x : V} {Q Q' : Rho → Store → Prop} (h : Asg C A env t x ρ σ Q X) (k : ∀ ρ σ, Q ρ σ → Q' ρ σ) : Asg C A env t x ρ σ Q' X := by
  intro s v S F r
  refine wpAny_mono (h s v S F r) ?_ fun _ _ z => z
  rintro _ s1 ⟨ρ1, σ1, q, rest⟩
  exact ⟨ρ1, σ1, k _ _ q, rest⟩

theorem TyGo.mk {x : V} {T : String} {P : Prop} (h : TyV C σ x T) (k : P) : TyV C σ x T ∧ P := ⟨h, k⟩
theorem LstAt.st {l : Addr} {xs : List V} (h : σ l = some (.list xs)) : LstAt C σ l xs := .inl h
/-- what a loop's body owes -/
def LpQ (ok : Store → Prop) (J : Rho → Store → Prop) (Q : FV → Rho → Store → Prop) (g : FV) (ρ : Rho) (σ : Store) : Prop :=
  match g with
  | .next | .cont => ok σ ∧ J ρ σ
  | .brk => Q .next ρ σ
  | .ret v => Q (.ret v) ρ σ
theorem LpQ.n {ok : Store → Prop} {J : Rho → Store → Prop} {Q : FV → Rho → Store → Prop} (h : ok σ ∧ J ρ σ) : LpQ ok J Q .next ρ σ := h
theorem LpQ.r {ok : Store → Prop} {J : Rho → Store → Prop} {Q : FV → Rho → Store → Prop} {v : V} (h : Q (.ret v) ρ σ) : LpQ ok J Q (.ret v) ρ σ := h

theorem ForL.inv {α : Type} {target : Expr} {body : List Stmt} {ok : Store → Prop} {Q : FV → Rho → Store → Prop} (enc : α → V) (I : List α → Rho → Store → Prop)
    (step : ∀ x xs ρ σ, I (x :: xs) ρ σ → Asg C A env target (enc x) ρ σ (fun ρ1 σ1 => Exs C A env body ρ1 σ1 (LpQ ok (I xs) Q) (fun _ _ => False)) (fun _ _ => False))
    (done : ∀ ρ σ, I [] ρ σ → Q .next ρ σ) : ∀ xs ρ σ, I xs ρ σ → ForL C A env target body ok Q (xs.map enc) ρ σ
  | [], ρ, σ, h => done ρ σ h
  | x :: xs, ρ, σ, h => by
    refine (step x xs ρ σ h).mono fun ρ1 σ1 h1 => h1.mono fun g ρ2 σ2 h2 => ?_
    cases g with
    | next => exact ⟨h2.1, ForL.inv enc I step done xs ρ2 σ2 h2.2⟩
    | cont => exact ⟨h2.1, ForL.inv enc I step done xs ρ2 σ2 h2.2⟩
    | brk => exact h2
    | ret v => exact h2

theorem Ev.mono' {e : Expr} {Q Q' : V → Store → Prop} (h : Ev C A env e ρ σ Q X) (k : ∀ x σ, Q x σ → Q' x σ) : Ev C A env e ρ σ Q' X := by
  intro s S F
  refine wpAny_mono (h s S F) ?_ fun _ _ z => z
  rintro _ s1 ⟨x, σ1, q, rest⟩
  exact ⟨x, σ1, k _ _ q, rest⟩
theorem CmpL.inv {α : Type} {x : Str} {elt : Expr} {ok : Store → Prop} {R : List V → Store → Prop} (enc : α → V) (I : List α → List V → Store → Prop)
    (step : ∀ y ys out σ, I (y :: ys) out σ → Ev C A env elt (ρ.put x (enc y)) σ (fun z σ2 => out.length ≤ sizeLine ∧ ok σ2 ∧ I ys (out ++ [z]) σ2) (fun _ _ => False))
    (done : ∀ out σ, I [] out σ → R out σ) : ∀ ys out σ, I ys out σ → CmpL C A env x [] elt ok ρ R (ys.map enc) out σ
  | [], out, σ, h => done out σ h
  | y :: ys, out, σ, h => by
    unfold CmpL
    exact Ifs.nil ((step y ys out σ h).mono' fun z σ2 h2 => ⟨h2.1, h2.2.1, CmpL.inv enc I step done ys _ σ2 h2.2.2⟩)
end
end Mine

set_option autoImplicit false
set_option linter.unusedVariables false
namespace Mine
open PySem PySem.W PySem.SeqAt PyProof.Rows

/- texts: their length and their code points -/
theorem strOk_iff {x : Str} : PySem.PyData.strOk x = true ↔ ∀ c ∈ x.cps.toList, c < 0x110000 := by
  unfold PySem.PyData.strOk
  rw [Array.all_eq_true_iff_forall_mem]
  simp
theorem strOk_append {a b : Str} (ha : PySem.PyData.strOk a = true) (hb : PySem.PyData.strOk b = true) : PySem.PyData.strOk (a ++ b) = true := by
  rw [strOk_iff] at *
  intro c hc
  have : (a ++ b).cps = a.cps ++ b.cps := rfl
  rw [this, Array.toList_append, List.mem_append] at hc
  exact hc.elim (ha c) (hb c)
theorem strOk_ofString (s : String) : PySem.PyData.strOk (Str.ofString s) = true := by
  rw [strOk_iff]
  intro c hc
  rw [Str.ofString_eq_toList] at hc
  simp only [List.mem_map, List.toList_toArray] at hc
  obtain ⟨d, _, rfl⟩ := hc
  have := d.valid
  simp only [UInt32.isValidChar, Nat.isValidChar] at this
  simp only [Char.toNat]
  omega
theorem strOk_one {c : Nat} (h : c < 0x110000) : PySem.PyData.strOk ⟨#[c]⟩ = true := by rw [strOk_iff]; simpa using h
theorem strOk_empty : PySem.PyData.strOk Str.empty = true := by rw [strOk_iff]; intro c hc; simp [Str.empty] at hc
theorem strOk_join {ts : List Str} (h : ∀ t ∈ ts, PySem.PyData.strOk t = true) : PySem.PyData.strOk (Txt.join Str.empty ts) = true := by
  show PySem.PyData.strOk (Builtin.Str.glued Str.empty ts) = true
  rw [StrLaws.glued_eq_join]
  match ts with
  | [] => exact strOk_empty
  | [x] => exact h x (by simp)
  | x :: y :: r =>
    show PySem.PyData.strOk (x ++ Str.empty ++ Str.join Str.empty (y :: r)) = true
    have ih := strOk_join (ts := y :: r) fun t ht => h t (by simp at ht ⊢; exact .inr ht)
    have e : Txt.join Str.empty (y :: r) = Str.join Str.empty (y :: r) := StrLaws.glued_eq_join _ _
    rw [e] at ih
    exact strOk_append (strOk_append (h x (by simp)) strOk_empty) ih
theorem join_len {ts : List Str} {B : Nat} (hB : ∀ y ∈ ts, y.length ≤ B) : (Txt.join Str.empty ts).length ≤ ts.length * B := by
  show (Builtin.Str.glued Str.empty ts).length ≤ _
  rw [StrLaws.glued_eq_join]
  have h1 := StrLaws.join_length_le Str.empty ts
  have h2 := StrLaws.sumLen_le ts hB
  have : Str.empty.length = 0 := rfl
  rw [this] at h1; omega
theorem joinOk_of {ts : List Str} {B : Nat} (hB : ∀ y ∈ ts, y.length ≤ B) (h : ts.length * B ≤ 16777216) : JoinOk Str.empty ts = true := by
  unfold JoinOk
  rw [StrLaws.joinFits hB (by have : Str.empty.length = 0 := rfl; rw [this]; omega)]; rfl
end Mine

namespace Mine
open PySem PySem.W PySem.SeqAt PyProof.Rows
section
variable {C : Cx} {A : Around} {σ : Store} {X : XP}
theorem CallWP.range1 {n : Int} {Q : V → Store → Prop} (h : Q (.rng 0 n) σ) : CallWP C A (.type "range") [.int n] σ Q X := by
  intro s vs S r
  cases r with
  | cons r1 r2 =>
  cases r2; cases r1
  exact call_range_1 ⟨.rng 0 n, σ, h, .rng (IsRange.new _ _ _ _ _ _ _), S.push, .push⟩
theorem intMul_l {a b : Int} (h1 : -(2 ^ 64) < a) (h2 : a < 2 ^ 64) : IntMulOk a b := IntMulOk.of_left (intBits_le_64 h1 h2)
theorem intMul_r {a b : Int} (h1 : -(2 ^ 64) < b) (h2 : b < 2 ^ 64) : IntMulOk a b := IntMulOk.of_right (intBits_le_64 h1 h2)
end
end Mine

set_option autoImplicit false
set_option linter.unusedVariables false
namespace Mine
open PySem PySem.W PySem.SeqAt PyProof.Rows
section
variable {C : Cx} {A : Around} {σ : Store} {X : XP}
/- plain data -/
theorem DRs.map {α : Type} {f : α → V} {g : α → PyData} : ∀ {xs : List α}, (∀ x ∈ xs, DR C σ (f x) (g x)) → DRs C σ (xs.map f) (xs.map g)
  | [], _ => .nil
  | x :: xs, h => .cons (h x (.head _)) (DRs.map fun y hy => h y (.tail _ hy))
theorem canLayAll_map {α : Type} {g : α → PyData} : ∀ {xs : List α}, (∀ x ∈ xs, (g x).canLay0 = true) → PyData.canLayAll0 (xs.map g) = true
  | [], _ => by simp [PyData.canLayAll0]
  | x :: xs, h => by simp [PyData.canLayAll0, h x (.head _), canLayAll_map fun y hy => h y (.tail _ hy)]
theorem depthAll_map {α : Type} {g : α → PyData} {k : Nat} : ∀ {xs : List α}, (∀ x ∈ xs, (g x).depth ≤ k) → PyData.depthAll (xs.map g) ≤ k
  | [], _ => by simp [PyData.depthAll]
  | x :: xs, h => by
    have h1 := h x (.head _)
    have h2 := depthAll_map (xs := xs) fun y hy => h y (.tail _ hy)
    simp only [List.map_cons, PyData.depthAll]; omega
theorem CmpWP.neSame {x y : V} {d : PyData} {Q : V → Store → Prop} (hx : DR C σ x d) (hy : DR C σ y d) (h1 : d.canLay0 = true) (hu : A.units + d.depth < cLine) (h : Q (.bool false) σ) : CmpWP C A .NotEq x y σ Q X :=
  CmpWP.ne hx hy h1 h1 (by omega) (by rw [eqv_refl d h1]; exact h)
theorem isi_t {x : V} {t : Ty} {U : String} {Q : V → Store → Prop} (ht : HasTy C σ x t) (hU : (U = "int" ∨ U = "bool" ∨ U = "str" ∨ U = "list" ∨ U = "tuple")) {b : Bool} (hb : isiB t U = b) (h : Q (.bool b) σ) : CallWP C A (.builtin "isinstance") [x, .typ U] σ Q X :=
  CallWP.isi ht hU (by rw [hb]; exact h)
end
end Mine

set_option autoImplicit false
set_option linter.unusedVariables false
namespace Mine
open PySem PySem.W PySem.SeqAt PyProof.Rows
section
variable {C : Cx} {A : Around} {env : Env} {ρ : Rho} {σ : Store} {X : XP} {s : Shared}
/- a, b, c = x, y, z -/
def AsgN (C : Cx) (A : Around) (env : Env) (ns : List Str) (xs : List V) (ρ : Rho) (σ : Store) (Q : Rho → Store → Prop) (X : XP) : Prop :=
  ∀ s vs, St C σ s → Fm C σ s.heap env ρ → VRs s.heap vs xs → wpAny C.M A (assignInOrder (ns.map fun n => bindName env n) vs) (fun _ s' => ∃ ρ' σ', Q ρ' σ' ∧ St C σ' s' ∧ Fm C σ' s'.heap env ρ' ∧ EvoF env σ s.heap σ' s'.heap) X s
theorem Store.none_ne {σ : Store} {a b : Addr} {o : O} (h : (σ.upd b o) a = none) : a ≠ b ∧ σ a = none := by
  by_cases q : a = b
  · subst q; simp [Store.upd] at h
  · exact ⟨q, by simpa [Store.upd, q] using h⟩
end
end Mine

namespace Mine
open PySem PySem.W
section
variable {C : Cx} {A : Around} {env : Env} {ρ : Rho} {σ : Store} {X : XP}
end
end Mine

set_option autoImplicit false
set_option linter.unusedVariables false
namespace Mine
open PySem PySem.W
/- which kind of goal stands: one quick look each -/
section
variable {C : Cx} {A : Around} {env : Env} {ρ : Rho} {σ : Store} {X : XP}
theorem is.ev {e : Expr} {Q : V → Store → Prop} (h : Ev C A env e ρ σ Q X) : Ev C A env e ρ σ Q X := h
theorem is.tst {e : Expr} {Q : Bool → Store → Prop} (h : Tst C A env e ρ σ Q X) : Tst C A env e ρ σ Q X := h
theorem is.ex {e : Stmt} {Q : FV → Rho → Store → Prop} (h : Ex C A env e ρ σ Q X) : Ex C A env e ρ σ Q X := h
theorem is.exs {e : List Stmt} {Q : FV → Rho → Store → Prop} (h : Exs C A env e ρ σ Q X) : Exs C A env e ρ σ Q X := h
theorem is.thn {e : List Stmt} {Q : FV → Rho → Store → Prop} {g : FV} (h : Then C A env e Q X g ρ σ) : Then C A env e Q X g ρ σ := h
theorem is.asg {e : Expr} {x : V} {Q : Rho → Store → Prop} (h : Asg C A env e x ρ σ Q X) : Asg C A env e x ρ σ Q X := h
theorem is.cmp {o : CmpOp} {x y : V} {Q : V → Store → Prop} (h : CmpWP C A o x y σ Q X) : CmpWP C A o x y σ Q X := h
theorem is.bin {o : Operator} {x y : V} {Q : V → Store → Prop} (h : BinWP C A o x y σ Q X) : BinWP C A o x y σ Q X := h
theorem is.call {f : Value} {xs : List V} {Q : V → Store → Prop} (h : CallWP C A f xs σ Q X) : CallWP C A f xs σ Q X := h
theorem is.item {x y : V} {Q : V → Store → Prop} (h : ItemWP C A x y σ Q X) : ItemWP C A x y σ Q X := h
theorem is.lp {ok : Store → Prop} {J : Rho → Store → Prop} {Q : FV → Rho → Store → Prop} {g : FV} (h : LpQ ok J Q g ρ σ) : LpQ ok J Q g ρ σ := h
theorem is.tru {x : V} {Q : Bool → Store → Prop} (h : TruWP C A x σ Q X) : TruWP C A x σ Q X := h
theorem is.ags {pos : Pos} {es : List Expr} {Q : List V → Store → Prop} (h : Ags C A env pos es ρ σ Q X) : Ags C A env pos es ρ σ Q X := h
end
end Mine

set_option autoImplicit false
set_option linter.unusedVariables false
namespace Mine
open PySem PySem.W PyProof.Rows

/- the sort's questions answered by a weak order: its answer is sorted and stable -/
structure SWO (lt : Nat → Nat → Bool) : Prop where
  irr : ∀ i, lt i i = false
  tr : ∀ i j k, lt i j = true → lt j k = true → lt i k = true
  nt : ∀ i j k, lt i j = false → lt j k = false → lt i k = false
def slt (lt : Nat → Nat → Bool) (i j : Nat) : Prop := lt i j = true ∨ (lt j i = false ∧ i < j)
section
variable {lt : Nat → Nat → Bool}
theorem SWO.asym (W : SWO lt) {i j : Nat} (h : lt i j = true) : lt j i = false := by
  cases q : lt j i with
  | false => rfl
  | true => have := W.tr i j i h q; rw [W.irr] at this; cases this
theorem SWO.l1 (W : SWO lt) {i j k : Nat} (h : lt i j = true) (n : lt k j = false) : lt i k = true := by
  cases q : lt i k with
  | true => rfl
  | false => rw [W.nt i k j q n] at h; cases h
theorem SWO.l2 (W : SWO lt) {i j k : Nat} (n : lt j i = false) (h : lt j k = true) : lt i k = true := by
  cases q : lt i k with
  | true => rfl
  | false => rw [W.nt j i k n q] at h; cases h
theorem slt.not (W : SWO lt) {i j : Nat} (h : slt lt i j) : lt j i = false := by
  rcases h with h | h
  · exact W.asym h
  · exact h.1
theorem slt.trans (W : SWO lt) {i j k : Nat} (a : slt lt i j) (b : slt lt j k) : slt lt i k := by
  rcases a with a | ⟨a, a'⟩ <;> rcases b with b | ⟨b, b'⟩
  · exact .inl (W.tr _ _ _ a b)
  · exact .inl (W.l1 a b)
  · exact .inl (W.l2 a b)
  · exact .inr ⟨W.nt _ _ _ b a, Nat.lt_trans a' b'⟩
def Srt (lt : Nat → Nat → Bool) (p : Nat → Nat) (n : Nat) : Prop := ∀ i j, i < j → j < n → slt lt (p i) (p j)
theorem Srt.ext (W : SWO lt) {p : Nat → Nat} {n : Nat} (h : Srt lt p n) (h1 : 1 ≤ n) (k : slt lt (p (n - 1)) (p n)) : Srt lt p (n + 1) := by
  intro i j hij hj
  by_cases q : j < n
  · exact h i j hij q
  · have : j = n := by omega
    subst this
    by_cases q : i = j - 1
    · subst q; exact k
    · exact (h i (j - 1) (by omega) (by omega)).trans W k
structure Idn (p : Nat → Nat) (n N : Nat) : Prop where
  rest : ∀ k, n ≤ k → k < N → p k = k
  low : ∀ k, k < n → p k < n
theorem Idn.succ {p : Nat → Nat} {n N : Nat} (I : Idn p n N) (h : n < N) : Idn p (n + 1) N :=
  ⟨fun k a b => I.rest k (by omega) b, fun k a => by
    by_cases q : k < n
    · have := I.low k q; omega
    · have : k = n := by omega
      subst this; rw [I.rest k (Nat.le_refl _) h]; omega⟩
theorem Idn.mono {p : Nat → Nat} {n N : Nat} (I : Idn p n N) : ∀ m, n ≤ m → m ≤ N → Idn p m N := by
  intro m h1 h2
  induction m with
  | zero => have : n = 0 := by omega
            subst this; exact I
  | succ m ih =>
    by_cases q : n = m + 1
    · subst q; exact I
    · exact (ih (by omega) (by omega)).succ (by omega)
abbrev fn (P : Array Nat) (k : Nat) : Nat := P.getD k 0
theorem fn_get (P : Array Nat) (k : Nat) : fn P k = (P[k]?).getD 0 := by simp [fn]
theorem fn_rev {P : Array Nat} {i j : Nat} (hj : j ≤ P.size) (k : Nat) : fn (kas_rev P i j) k = if i ≤ k ∧ k < j then fn P (i + j - 1 - k) else fn P k := by
  rw [fn_get]; unfold kas_rev; rw [getElem?_mirror_all hj]
  split <;> rw [fn_get]
theorem fn_bubble {P : Array Nat} {k d : Nat} (hk : k < P.size) (hd : d ≤ k) (i : Nat) : fn (bubble P k d) i = if i = k - d then fn P k else if k - d < i ∧ i ≤ k then fn P (i - 1) else fn P i := by
  rw [fn_get, fn_get, fn_get, fn_get, getElem?_bubble hk d hd]
  split
  · rfl
  · split <;> rfl
theorem rev_size (P : Array Nat) (i j : Nat) : (kas_rev P i j).size = P.size := mirror_size _ _ _ _
theorem rev_perm (P : Array Nat) (i j : Nat) : (kas_rev P i j).Perm P := mirror_perm _ _ _ _

variable {cmp : Nat → Nat → (Bool → Shared → Prop) → Shared → Prop} {s : Shared} {N : Nat}
/-- P: the array's state -/
structure PA (P : Array Nat) (N : Nat) : Prop where
  sz : P.size = N
  pm : P.toList.Perm (List.range N)
theorem PA.rev {P : Array Nat} (h : PA P N) (i j : Nat) : PA (kas_rev P i j) N := ⟨(rev_size _ _ _).trans h.sz, ((rev_perm P i j).toList).trans h.pm⟩
theorem PA.bub {P : Array Nat} (h : PA P N) (i j : Nat) : PA (bubble P i j) N := ⟨(bubble_size _ _ _).trans h.sz, ((bubble_perm P i j).toList).trans h.pm⟩
theorem PA.bnd {P : Array Nat} (h : PA P N) {k : Nat} (hk : k < N) : fn P k < N := by
  have hk' : k < P.size := by rw [h.sz]; exact hk
  have : fn P k ∈ P.toList := by
    have e : fn P k = P[k] := by simp [fn, Array.getD, hk']
    rw [e]; exact Array.getElem_mem_toList hk'
  have := h.pm.mem_iff.mp this
  simpa using this

theorem asc_ok (W : SWO lt) (hc : ∀ i j C, i < N → j < N → C (lt i j) s → cmp i j C s) {P : Array Nat} (hP : PA P N) {Q : Nat → Shared → Prop} : ∀ f n, n + f = N → 1 ≤ n → Srt lt (fn P) n → Idn (fn P) n N →
    (∀ m, n ≤ m → m ≤ N → Srt lt (fn P) m → (m < N → lt (fn P m) (fn P (m - 1)) = true) → Q m s) → (kas_asc P f n).kasWp cmp Q s
  | 0, n, hn, h1, hs, hi, h => h n (Nat.le_refl _) (by omega) hs (fun q => by omega)
  | f + 1, n, hn, h1, hs, hi, h => by
    refine hc _ _ _ (hP.bnd (by omega)) (hP.bnd (by omega)) ?_
    cases q : lt (P.getD n 0) (P.getD (n - 1) 0) with
    | true => exact h n (Nat.le_refl _) (by omega) hs fun _ => q
    | false =>
      refine asc_ok W hc hP f (n + 1) (by omega) (by omega) (hs.ext W h1 (.inr ⟨q, ?_⟩)) (hi.succ (by omega)) fun m a b c d => h m (by omega) b c d
      rw [hi.rest n (Nat.le_refl _) (by omega)]
      exact hi.low _ (by omega)

/-- falling so far, the last run of equals apart -/
structure Dsc (lt : Nat → Nat → Bool) (p : Nat → Nat) (b n : Nat) : Prop where
  i1 : ∀ i j, i < j → j < b → slt lt (p j) (p i)
  i2 : ∀ i j, i < b → b ≤ j → j < n → lt (p j) (p i) = true
  i3 : ∀ i j, b ≤ i → i < j → j < n → p i < p j ∧ lt (p i) (p j) = false ∧ lt (p j) (p i) = false
theorem Dsc.turn (W : SWO lt) {p p1 : Nat → Nat} {b n : Nat} (h : Dsc lt p b n) (hb : b < n) (e : ∀ k, p1 k = if b ≤ k ∧ k < n then p (b + n - 1 - k) else p k) : ∀ i j, i < j → j < n → slt lt (p1 j) (p1 i) := by
  intro i j hij hj
  rw [e, e]
  by_cases q : b ≤ j
  · rw [if_pos ⟨q, hj⟩]
    by_cases q2 : b ≤ i
    · rw [if_pos ⟨q2, by omega⟩]
      obtain ⟨a, b', c⟩ := h.i3 (b + n - 1 - j) (b + n - 1 - i) (by omega) (by omega) (by omega)
      exact .inr ⟨c, a⟩
    · rw [if_neg (by omega)]
      exact .inl (h.i2 i _ (by omega) (by omega) (by omega))
  · rw [if_neg (by omega), if_neg (by omega)]
    exact h.i1 i j hij (by omega)
theorem Dsc.next (W : SWO lt) {p p1 : Nat → Nat} {b n : Nat} (h : Dsc lt p b n) (hb : b < n) (e : ∀ k, p1 k = if b ≤ k ∧ k < n then p (b + n - 1 - k) else p k) (hl : lt (p n) (p (n - 1)) = true) : Dsc lt p1 n (n + 1) := by
  refine ⟨h.turn W hb e, fun i j hi hj hj' => ?_, fun i j a b' c => by omega⟩
  have : j = n := by omega
  subst this
  rw [e j, if_neg (by omega), e i]
  by_cases q : b ≤ i
  · rw [if_pos ⟨q, hi⟩]
    have : lt (p (b + j - 1 - i)) (p (j - 1)) = false := by
      by_cases z : b + j - 1 - i = j - 1
      · rw [z, W.irr]
      · exact (h.i3 _ (j - 1) (by omega) (by omega) (by omega)).2.1
    exact W.l1 hl this
  · rw [if_neg (by omega)]
    exact W.tr _ _ _ hl (h.i2 i (j - 1) (by omega) (by omega) (by omega))
theorem Dsc.more (W : SWO lt) {p : Nat → Nat} {b n N : Nat} (h : Dsc lt p b n) (hb : b < n) (hi : Idn p n N) (hn : n < N) (h1 : lt (p n) (p (n - 1)) = false) (h2 : lt (p (n - 1)) (p n) = false) : Dsc lt p b (n + 1) := by
  refine ⟨h.i1, fun i j a b' c => ?_, fun i j a b' c => ?_⟩
  · by_cases q : j < n
    · exact h.i2 i j a b' q
    · have : j = n := by omega
      subst this
      exact W.l2 h2 (h.i2 i (j - 1) a (by omega) (by omega))
  · by_cases q : j < n
    · exact h.i3 i j a b' q
    · have : j = n := by omega
      subst this
      refine ⟨by rw [hi.rest j (Nat.le_refl _) hn]; exact hi.low i b', ?_⟩
      by_cases z : i = j - 1
      · subst z; exact ⟨h2, h1⟩
      · obtain ⟨x, y, w⟩ := h.i3 i (j - 1) a (by omega) (by omega)
        exact ⟨W.nt _ _ _ y h2, W.nt _ _ _ h1 w⟩
theorem Idn.rev {P : Array Nat} {n b N : Nat} (hi : Idn (fn P) n N) (hP : PA P N) (hn : n ≤ N) : Idn (fn (kas_rev P b n)) n N := by
  refine ⟨fun k a c => ?_, fun k a => ?_⟩
  · rw [fn_rev (by rw [hP.sz]; exact hn), if_neg (by omega)]; exact hi.rest k a c
  · rw [fn_rev (by rw [hP.sz]; exact hn)]
    split
    · exact hi.low _ (by omega)
    · exact hi.low _ a

theorem desc_ok (W : SWO lt) (hc : ∀ i j C, i < N → j < N → C (lt i j) s → cmp i j C s) {Q : Array Nat × Nat × Nat → Shared → Prop} : ∀ f P n q, n + f = N → q + 1 ≤ n → PA P N → Idn (fn P) n N → Dsc lt (fn P) (n - (q + 1)) n →
    (∀ P' m q', n ≤ m → m ≤ N → q' + 1 ≤ m → PA P' N → Idn (fn P') m N → Dsc lt (fn P') (m - (q' + 1)) m → Q (P', m, q') s) → (kas_desc f P n q).kasWp cmp Q s
  | 0, P, n, q, hn, hq, hP, hi, hd, h => h P n q (Nat.le_refl _) (by omega) hq hP hi hd
  | f + 1, P, n, q, hn, hq, hP, hi, hd, h => by
    refine hc _ _ _ (hP.bnd (by omega)) (hP.bnd (by omega)) ?_
    cases c : lt (P.getD n 0) (P.getD (n - 1) 0) with
    | true =>
      simp only [if_true]
      split
      · rename_i q0
        have e := fn_rev (P := P) (i := n - (q + 1)) (j := n) (by rw [hP.sz]; omega)
        refine desc_ok W hc f _ (n + 1) 0 (by omega) (by omega) (hP.rev _ _) ((hi.rev hP (by omega)).succ (by omega)) ?_ fun P' m q' a b c d e g => h P' m q' (by omega) b c d e g
        exact hd.next W (by omega) e c
      · rename_i q0
        have q0 : q = 0 := by omega
        subst q0
        refine desc_ok W hc f _ (n + 1) 0 (by omega) (by omega) hP (hi.succ (by omega)) ?_ fun P' m q' a b c d e g => h P' m q' (by omega) b c d e g
        refine hd.next W (by omega) (fun k => ?_) c
        split
        · congr 1; omega
        · rfl
    | false =>
      simp only [Bool.false_eq_true, if_false]
      refine hc _ _ _ (hP.bnd (by omega)) (hP.bnd (by omega)) ?_
      cases c2 : lt (P.getD (n - 1) 0) (P.getD n 0) with
      | true =>
        simp only [if_true]
        exact h P n q (Nat.le_refl _) (by omega) hq hP hi hd
      | false =>
        simp only [Bool.false_eq_true, if_false]
        refine desc_ok W hc f P (n + 1) (q + 1) (by omega) (by omega) hP (hi.succ (by omega)) ?_ fun P' m q' a b c d e g => h P' m q' (by omega) b c d e g
        have : n + 1 - (q + 1 + 1) = n - (q + 1) := by omega
        rw [this]
        exact hd.more W (by omega) hi (by omega) c c2

theorem tail3_ok (W : SWO lt) (hc : ∀ i j C, i < N → j < N → C (lt i j) s → cmp i j C s) {P : Array Nat} {n : Nat} {Q : Nat × Array Nat → Shared → Prop} (h1 : 1 ≤ n) (hn : n ≤ N) (hP : PA P N) (hi : Idn (fn P) n N) (hd : ∀ i j, i < j → j < n → slt lt (fn P j) (fn P i))
    (h : ∀ m P', 1 ≤ m → m ≤ N → PA P' N → Idn (fn P') m N → Srt lt (fn P') m → Q (m, P') s) : (kas_tail3 n N P).kasWp cmp Q s := by
  unfold kas_tail3
  rw [KasT.kasWp_bind]
  have e := fn_rev (P := P) (i := 0) (j := n) (by rw [hP.sz]; omega)
  have hs : Srt lt (fn (kas_rev P 0 n)) n := fun i j a b => by
    rw [e, e, if_pos (by omega), if_pos (by omega)]
    exact hd _ _ (by omega) (by omega)
  refine asc_ok W hc (hP.rev 0 n) (N - n) n (by omega) h1 hs (hi.rev hP hn) fun m a b c d => ?_
  exact h m _ (by omega) b (hP.rev 0 n) ((hi.rev hP hn).mono m a b) c

theorem descPart_ok (W : SWO lt) (hc : ∀ i j C, i < N → j < N → C (lt i j) s → cmp i j C s) {P : Array Nat} {n : Nat} {Q : Nat × Array Nat → Shared → Prop} (hn : n + 1 ≤ N) (h1 : 1 ≤ n) (hP : PA P N) (hi : Idn (fn P) n N) (hd : Dsc lt (fn P) n (n + 1))
    (h : ∀ m P', 1 ≤ m → m ≤ N → PA P' N → Idn (fn P') m N → Srt lt (fn P') m → Q (m, P') s) : (kas_descPart n N P).kasWp cmp Q s := by
  unfold kas_descPart
  rw [KasT.kasWp_bind]
  refine desc_ok W hc (N - (n + 1)) P (n + 1) 0 (by omega) (by omega) hP (hi.succ (by omega)) (by simpa using hd) fun P' m q' a b c d e g => ?_
  dsimp only
  split
  · have ee := fn_rev (P := P') (i := m - (q' + 1)) (j := m) (by rw [d.sz]; omega)
    exact tail3_ok W hc (by omega) b (d.rev _ _) (e.rev d b) (g.turn W (by omega) ee) h
  · have q0 : q' = 0 := by omega
    subst q0
    refine tail3_ok W hc (by omega) b d e (g.turn W (by omega) fun k => ?_) h
    split
    · congr 1; omega
    · rfl

theorem count_ok (W : SWO lt) (hc : ∀ i j C, i < N → j < N → C (lt i j) s → cmp i j C s) {P : Array Nat} {Q : Nat × Array Nat → Shared → Prop} (h1 : 1 ≤ N) (hP : PA P N) (hi : Idn (fn P) 1 N)
    (h : ∀ m P', 1 ≤ m → m ≤ N → PA P' N → Idn (fn P') m N → Srt lt (fn P') m → Q (m, P') s) : (kas_count N P).kasWp cmp Q s := by
  unfold kas_count
  rw [KasT.kasWp_bind]
  refine asc_ok W hc hP (N - 1) 1 (by omega) (Nat.le_refl _) (fun i j a b => by omega) hi fun n a b c d => ?_
  have hin := hi.mono n a b
  split
  · exact h n P a b hP hin c
  · rename_i e
    have hlt : n < N := by
      have : n ≠ N := fun q => e (by simp [q])
      omega
    have dl := d hlt
    split
    · refine hc _ _ _ (hP.bnd (by omega)) (hP.bnd (by omega)) ?_
      cases c2 : lt (P.getD 0 0) (P.getD (n - 1) 0) with
      | true =>
        simp only [if_true]
        exact h n P a b hP hin c
      | false =>
        simp only [Bool.false_eq_true, if_false]
        have e := fn_rev (P := P) (i := 0) (j := n) (by rw [hP.sz]; omega)
        refine descPart_ok W hc hlt a (hP.rev 0 n) (hin.rev hP b) ⟨fun i j x y => ?_, fun i j x y z => ?_, fun i j x y z => by omega⟩ h
        · rw [e, e, if_pos (by omega), if_pos (by omega)]
          exact c _ _ (by omega) (by omega)
        · have : j = n := by omega
          subst this
          rw [e j, e i, if_neg (by omega), if_pos (by omega)]
          have k0 : lt (fn P (0 + j - 1 - i)) (fn P 0) = false := by
            by_cases z : 0 + j - 1 - i = 0
            · rw [z, W.irr]
            · exact (c 0 (0 + j - 1 - i) (by omega) (by omega)).not W
          exact W.l1 dl (W.nt _ _ _ k0 c2)
    · have : n = 1 := by omega
      subst this
      refine descPart_ok W hc hlt a hP hin ⟨fun i j x y => by omega, fun i j x y z => ?_, fun i j x y z => by omega⟩ h
      have e1 : j = 1 := by omega
      have e2 : i = 0 := by omega
      subst e1 e2
      exact dl

theorem place_ok (W : SWO lt) (hc : ∀ i j C, i < N → j < N → C (lt i j) s → cmp i j C s) {P : Array Nat} {k : Nat} {Q : Nat → Shared → Prop} (hP : PA P N) (hk : k < N) (hs : Srt lt (fn P) k) : ∀ f l r, l ≤ r → r ≤ k → r - l ≤ f →
    (∀ i, i < l → lt (fn P k) (fn P i) = false) → (∀ i, r ≤ i → i < k → lt (fn P k) (fn P i) = true) →
    (∀ l, l ≤ k → (∀ i, i < l → lt (fn P k) (fn P i) = false) → (∀ i, l ≤ i → i < k → lt (fn P k) (fn P i) = true) → Q l s) → (kas_place P k f l r).kasWp cmp Q s
  | 0, l, r, h1, h2, h3, a, b, h => h l (by omega) a fun i x y => b i (by omega) y
  | f + 1, l, r, h1, h2, h3, a, b, h => by
    unfold kas_place
    split
    · exact h l (by omega) a fun i x y => b i (by omega) y
    · refine hc _ _ _ (hP.bnd hk) (hP.bnd (by omega)) ?_
      cases c : lt (P.getD k 0) (P.getD ((l + r) / 2) 0) with
      | true =>
        simp only [if_true]
        refine place_ok W hc hP hk hs f l ((l + r) / 2) (by omega) (by omega) (by omega) a (fun i x y => ?_) h
        by_cases z : i = (l + r) / 2
        · subst z; exact c
        · exact W.l1 c ((hs ((l + r) / 2) i (by omega) y).not W)
      | false =>
        simp only [Bool.false_eq_true, if_false]
        refine place_ok W hc hP hk hs f ((l + r) / 2 + 1) r (by omega) h2 (by omega) (fun i x => ?_) b h
        by_cases z : i = (l + r) / 2
        · subst z; exact c
        · exact W.nt _ _ _ c ((hs i ((l + r) / 2) (by omega) (by omega)).not W)
theorem bub_srt (W : SWO lt) {P : Array Nat} {k l : Nat} (hP : PA P N) (hk : k < N) (hs : Srt lt (fn P) k) (hi : Idn (fn P) k N) (hl : l ≤ k) (a : ∀ i, i < l → lt (fn P k) (fn P i) = false) (b : ∀ i, l ≤ i → i < k → lt (fn P k) (fn P i) = true) :
    Srt lt (fn (bubble P k (k - l))) (k + 1) ∧ Idn (fn (bubble P k (k - l))) (k + 1) N := by
  have e : ∀ i, fn (bubble P k (k - l)) i = if i = l then fn P k else if l < i ∧ i ≤ k then fn P (i - 1) else fn P i := fun i => by
    have e := fn_bubble (P := P) (k := k) (d := k - l) (by rw [hP.sz]; exact hk) (by omega) i
    have : k - (k - l) = l := by omega
    rwa [this] at e
  refine ⟨fun i j hij hj => ?_, fun i x y => ?_, fun i x => ?_⟩
  · rw [e i, e j]
    by_cases q1 : j = l
    · rw [if_pos q1, if_neg (by omega), if_neg (by omega)]
      refine .inr ⟨a i (by omega), ?_⟩
      rw [hi.rest k (Nat.le_refl _) hk]; exact hi.low i (by omega)
    · rw [if_neg q1]
      by_cases q2 : i = l
      · rw [if_pos q2, if_pos (by omega)]
        exact .inl (b (j - 1) (by omega) (by omega))
      · rw [if_neg q2]
        by_cases q3 : l < i ∧ i ≤ k
        · rw [if_pos q3, if_pos (by omega)]; exact hs _ _ (by omega) (by omega)
        · rw [if_neg q3]
          by_cases q4 : l < j ∧ j ≤ k
          · rw [if_pos q4]; exact hs _ _ (by omega) (by omega)
          · rw [if_neg q4]; exact hs _ _ hij (by omega)
  · rw [e i, if_neg (by omega), if_neg (by omega)]; exact hi.rest i (by omega) y
  · rw [e i]
    split
    · rw [hi.rest k (Nat.le_refl _) hk]; omega
    · split
      · have := hi.low (i - 1) (by omega); omega
      · have := hi.low i (by omega); omega
theorem bin_ok (W : SWO lt) (hc : ∀ i j C, i < N → j < N → C (lt i j) s → cmp i j C s) {Q : Array Nat → Shared → Prop} : ∀ f P k, k + f = N → PA P N → Srt lt (fn P) k → Idn (fn P) k N →
    (∀ P', PA P' N → Srt lt (fn P') N → Q P' s) → (kas_bin f P k).kasWp cmp Q s
  | 0, P, k, hk, hP, hs, hi, h => h P hP (by have : k = N := by omega
                                             subst this; exact hs)
  | f + 1, P, k, hk, hP, hs, hi, h => by
    unfold kas_bin
    rw [KasT.kasWp_bind]
    refine place_ok W hc hP (by omega) hs k 0 k (Nat.zero_le _) (Nat.le_refl _) (by omega) (fun i x => by omega) (fun i x y => by omega) fun l hl a b => ?_
    obtain ⟨s1, i1⟩ := bub_srt W hP (by omega) hs hi hl a b
    exact bin_ok W hc f _ (k + 1) (by omega) (hP.bub _ _) s1 i1 h
theorem sort_ok (W : SWO lt) (hc : ∀ i j C, i < N → j < N → C (lt i j) s → cmp i j C s) {Q : Array Nat → Shared → Prop} (h1 : 1 ≤ N)
    (h : ∀ P', P'.toList.Perm (List.range N) → P'.toList.Pairwise (slt lt) → Q P' s) : (kas_sort N).kasWp cmp Q s := by
  have fin : ∀ P', PA P' N → Srt lt (fn P') N → Q P' s := fun P' hP hs => by
    refine h P' hP.pm (List.pairwise_iff_getElem.mpr fun i j hi hj hij => ?_)
    have hz := hP.sz
    simp only [Array.length_toList] at hi hj
    have := hs i j hij (by omega)
    have e : ∀ k (hk : k < P'.size), fn P' k = P'[k] := fun k hk => by simp [fn, Array.getD, hk]
    rw [e i hi, e j hj] at this
    simpa using this
  unfold kas_sort
  rw [KasT.kasWp_bind]
  have hP0 : PA (List.toArray (List.range N)) N := ⟨by simp, by simp⟩
  have e0 : ∀ k, k < N → fn (List.toArray (List.range N)) k = k := fun k hk => by simp [fn, Array.getD, hk]
  refine count_ok W hc h1 hP0 ⟨fun k a b => e0 k b, fun k a => by rw [e0 k (by omega)]; exact a⟩ fun m P' a b c d e => ?_
  dsimp only
  split
  · have hm : max m 1 = m := by omega
    rw [hm]
    exact bin_ok W hc (N - m) P' m (by omega) c e d fin
  · have : m = N := by omega
    subst this
    exact fin P' c e
end
end Mine

set_option autoImplicit false
set_option linter.unusedVariables false
set_option maxRecDepth 100000
namespace Mine
open PySem PySem.W PySem.SeqAt PyProof.Rows

/- pairs of numbers in their order -/
def pv (p : Int × Int) : V := .tup [.int p.1, .int p.2]
def lexlt (p q : Int × Int) : Bool := decide (p.1 < q.1) || (p.1 == q.1 && decide (p.2 < q.2))
theorem lexlt_iff {p q : Int × Int} : lexlt p q = true ↔ p.1 < q.1 ∨ (p.1 = q.1 ∧ p.2 < q.2) := by simp [lexlt]
theorem intSWO (f : Nat → Int) : SWO (fun i j => decide (f i < f j)) := by
  refine ⟨fun i => ?_, fun i j k => ?_, fun i j k => ?_⟩ <;> simp <;> omega

section
variable {prog : Program} {w : World} {A : Around} {E : Value → Shared → Prop} {s : Shared}
theorem VR.pv_at {h : Heap} {v : Value} {p : Int × Int} (r : VR h v (pv p)) : ∃ a t u n, v = .ref a ∧ h.get? a = some (tupObj #[.int p.1 t, .int p.2 u] n) := by
  unfold pv at r
  cases r with
  | @tup a items n _ e rs =>
    obtain ⟨l⟩ := items
    cases rs with
    | cons r1 r2 =>
    cases r2 with
    | cons r2 r3 =>
    cases r3; cases r1; cases r2
    exact ⟨_, _, _, _, rfl, e⟩
theorem pair_le {a b : Addr} {x y x' y' : Int} {t u t' u' : Tok} {n k : Nat} {Q : Value → Shared → Prop} (ha : s.heap.get? a = some (tupObj #[.int x t, .int y u] n)) (hb : s.heap.get? b = some (tupObj #[.int x' t', .int y' u'] k)) (hu : A.units < cLine)
    (h : Q (.bool (!lexlt (x', y') (x, y))) s) : wpAny (model prog w) A (richCompare .LtE (.ref a) (.ref b)) Q E s := by
  refine wpAny_richCompare_same_room (T := "tuple") (id := "tuple.__le__") ⟨_, ha, rfl⟩ ⟨_, hb, rfl⟩ PySem.F.slot_tuple_le ?_ hu
  refine wpAny_call_entry PySem.F.slot_tuple_le ⟨_, ha, rfl⟩ PySem.F.entry_tuple_le ?_ (PySem.F.args_tuple_le_2 _ _)
  show wpAny _ _ (isInstance (.ref b) (.type "tuple") >>= _) _ _ s
  refine wpAny_bind (wpAny_isInstance ⟨_, hb, rfl⟩ isSubtype_tuple_tuple ?_)
  simp only [Bool.not_true, Bool.false_eq_true, if_false]
  refine wpAny_bind (wpAny_tupleItemsOf ha rfl ?_)
  refine wpAny_bind (wpAny_tupleItemsOf hb rfl ?_)
  refine wpAny_bind ?_
  simp only [List.zip_cons_cons, List.zip_nil_right, List.forIn_cons, List.forIn_nil]
  refine wpAny_bind (wpAny_bind (wpAny_eqBool_int ?_))
  by_cases q : x = x'
  · subst q
    have e1 : (x == x) = true := beq_self_eq_true _
    simp only [e1, Bool.not_true, Bool.false_eq_true, if_false]
    refine wpAny_pure ?_
    refine wpAny_bind (wpAny_bind (wpAny_eqBool_int ?_))
    by_cases q2 : y = y'
    · subst q2
      have e2 : (y == y) = true := beq_self_eq_true _
      simp only [e2, Bool.not_true, Bool.false_eq_true, if_false]
      refine wpAny_pure (wpAny_pure (wpAny_pure ⟨_, rfl, fun z => (nomatch z), ?_⟩))
      have : (!lexlt (x, y) (x, y)) = true := by simp [lexlt]
      rw [this] at h; exact h
    · have e2 : (y == y') = false := beq_eq_false_iff_ne.mpr q2
      simp only [e2, Bool.not_false, if_true]
      refine wpAny_bind (wpAny_rule (wpAny_bind (PySem.P.le_int (wpAny_bind (wpAny_pure (wpAny_pure (wpAny_pure (wpAny_pure ⟨_, rfl, fun z => (nomatch z), ?_⟩))))))))
      have : (!lexlt (x, y') (x, y)) = decide (y ≤ y') := by rw [Bool.eq_iff_iff]; simp [lexlt] <;> omega
      rw [this] at h; exact h
  · have e1 : (x == x') = false := beq_eq_false_iff_ne.mpr q
    simp only [e1, Bool.not_false, if_true]
    refine wpAny_bind (wpAny_rule (wpAny_bind (PySem.P.le_int (wpAny_bind (wpAny_pure (wpAny_pure (wpAny_pure (wpAny_pure ⟨_, rfl, fun z => (nomatch z), ?_⟩))))))))
    have : (!lexlt (x', y') (x, y)) = decide (x ≤ x') := by rw [Bool.eq_iff_iff]; simp [lexlt] <;> omega
    rw [this] at h; exact h
end
def PairAt (h : Heap) (v : Value) (p : Int × Int) : Prop := ∃ a t u n, v = .ref a ∧ h.get? a = some (tupObj #[.int p.1 t, .int p.2 u] n)
section
variable {prog : Program} {w : World} {A : Around} {E : Value → Shared → Prop} {s : Shared}
end
/- sorted() -/
section
variable {prog : Program} {w : World} {A : Around} {E : Value → Shared → Prop} {s : Shared}
end
section
variable {C : Cx} {A : Around} {env : Env} {ρ : Rho} {σ : Store} {X : XP} {s : Shared}
end
section
variable {C : Cx} {A : Around} {env : Env} {ρ : Rho} {σ : Store} {X : XP} {s : Shared}
theorem CmpWP.lePair {a b c d : Int} {Q : V → Store → Prop} (hu : A.units < cLine) (h : Q (.bool (!lexlt (c, d) (a, b))) σ) : CmpWP C A .LtE (.tup [.int a, .int b]) (.tup [.int c, .int d]) σ Q X := by
  intro s u v S ra rb
  obtain ⟨a1, t1, u1, n1, rfl, e1⟩ := VR.pv_at (p := (a, b)) ra
  obtain ⟨a2, t2, u2, n2, rfl, e2⟩ := VR.pv_at (p := (c, d)) rb
  exact pair_le e1 e2 hu (EP.pure S h (.bool _))

theorem Rho.gp_miss4 {x1 x2 x3 x4 y : Str} {v1 v2 v3 v4 : V} {u : Option V} {r : Rho} (h1 : y ≠ x1) (h2 : y ≠ x2) (h3 : y ≠ x3) (h4 : y ≠ x4) (k : Rho.get r y = u) : Rho.get (Rho.put (Rho.put (Rho.put (Rho.put r x1 v1) x2 v2) x3 v3) x4 v4) y = u :=
  Rho.gp_miss h4 (Rho.gp_miss h3 (Rho.gp_miss h2 (Rho.gp_miss h1 k)))
/- attributes of own objects, step by step -/
def AttrWP (C : Cx) (x : V) (name : Str) (σ1 : Store) (Q : V → Store → Prop) : Prop := ∃ a c dx es y attr, x = .ref a ∧ σ1 a = some (.inst c dx) ∧ σ1 dx = some (.sd es) ∧ sget es name = some y ∧ plainGet C.K c name = true ∧ hasDictIn C.K c = true ∧
      findIn C.K (.ref c) name = some attr ∧ noGet C.K attr = true ∧ (∀ i, y ≠ .blt i) ∧ Q y σ1
def MethWP (C : Cx) (A : Around) (env : Env) (pos : Pos) (args : List Expr) (ρ : Rho) (x : V) (name : Str) (σ1 : Store) (Q : V → Store → Prop) (X : XP) : Prop := ∃ a c dx es f, x = .ref a ∧ σ1 a = some (.inst c dx) ∧ σ1 dx = some (.sd es) ∧ sget es name = none ∧ plainGet C.K c name = true ∧
      findIn C.K (.ref c) name = some (some (.ref f)) ∧ isFn C.K (.ref f) = true ∧ keepIn C.K (.ref f) = true ∧ Ags C A env pos args ρ σ1 (fun xs σ2 => CallWP C A (.ref f) (.ref a :: xs) σ2 Q X) X
def SAttWP (C : Cx) (x : V) (name : Str) (y : V) (σ1 : Store) (Q : Store → Prop) : Prop := ∃ a c dx es, x = .ref a ∧ σ1 a = some (.inst c dx) ∧ σ1 dx = some (.sd es) ∧ es.length ≤ 1000 ∧
      findIn C.K (.ref c) "__setattr__" = some (some (.builtin "object.__setattr__")) ∧ plainOver C.K c = true ∧ takerIn C.K c name = some none ∧ hasDictIn C.K c = true ∧ Q (σ1.upd dx (.sd (sput es name y)))
/- making an own object -/
def CodC (C : Cx) (A : Around) (f : Value) (args : List V) (σ : Store) (Q : V → Store → Prop) : Prop :=
  ∀ s vs, St C σ s → VRs s.heap vs args → codeAny C.M A (.call f ⟨vs, []⟩) (fun r s' => match r with | .ok (.ret v) => EP C σ s.heap Q v s' | _ => False) s
/- slices of lists -/
theorem pick_range {α : Type} (xs : List α) : ∀ (k n : Nat), k + n ≤ xs.length → ((List.range n).map fun i => k + i).filterMap (xs[·]?) = (xs.drop k).take n
  | k, 0, _ => by simp
  | k, n + 1, h => by
    have hk : k < xs.length := by omega
    have ih := pick_range xs (k + 1) n (by omega)
    rw [List.range_succ_eq_map, List.map_cons, List.map_map, List.filterMap_cons]
    have e0 : xs[k + 0]? = some xs[k] := by simp [hk]
    rw [e0]
    have e1 : (List.range n).map ((fun i => k + i) ∘ Nat.succ) = (List.range n).map fun i => k + 1 + i := List.map_congr_left fun i _ => by simp only [Function.comp]; omega
    rw [e1, ih, List.drop_eq_getElem_cons hk, List.take_succ_cons]

/- dict.pop(key) -/
def idel (es : List (Int × V)) (k : Int) : List (Int × V) := es.filter fun p => !decide (p.1 = k)
end
end Mine

set_option autoImplicit false
set_option linter.unusedVariables false
set_option maxRecDepth 100000
set_option maxHeartbeats 4000000
namespace Mine
open PySem PySem.W PySem.SeqAt PyProof.Rows PySem.Calls

def CodeAt (h : Heap) (c : Addr) (q : Str) : Prop := ∃ o vs t, h.get? c = some o ∧ o.cls = .type "code" ∧ o.data = .fields vs ∧ vs[1]? = some (.str q t)
theorem CodeAt.mono {h h' : Heap} {c : Addr} {q : Str} (x : CodeAt h c q) (k : TupKeep h h') : CodeAt h' c q :=
  let ⟨o, vs, t, e, h1, h2, h3⟩ := x; ⟨o, vs, t, k _ _ (.inr (.inr ⟨h1, vs, h2⟩)) e, h1, h2, h3⟩
theorem CodeAt.rec' {h : Heap} {c : Addr} {q : Str} (x : CodeAt h c q) : h.CodeRec (.ref c) q :=
  let ⟨o, vs, t, e, h1, h2, h3⟩ := x; ⟨c, o, vs, t, rfl, e, h2, h3⟩
def LamAt (h : Heap) (f : Addr) (params : Arguments) (body : Expr) (scope : Scope) (clos : List (Str × Addr)) (q : Str) : Prop :=
  ∃ pm c' ctv, h.get? f = some (kla_obj "<lambda>" q params body scope clos pm c' ctv) ∧ CodeAt h c' q
def BMod (C : Cx) : Prop := ∃ bm ob, C.mg "__builtins__" = some (.ref bm) ∧ bm ≠ builtinsNs ∧ C.h₀.get? bm = some ob ∧ ob.cls = .type "module" ∧ ob.dict = some builtinsNs ∧ ob.data = .plain

section
variable {C : Cx} {A : Around} {env : Env} {ρ : Rho} {σ : Store} {X : XP} {s : Shared}
theorem LamAt.evo {σ' : Store} {h h' : Heap} {f : Addr} {params : Arguments} {body : Expr} {scope : Scope} {clos : List (Str × Addr)} {q : Str} (x : LamAt h f params body scope clos q) (e : Evo σ h σ' h') (hf : σ f = none) : LamAt h' f params body scope clos q :=
  let ⟨pm, c', ctv, ho, hc⟩ := x; ⟨pm, c', ctv, e.keep _ _ ho hf, hc.mono e.tup⟩

theorem lam_make {E : XP} {c P : Addr} {params : Arguments} {body : Expr} {lsc : Scope} {lpos : Pos} {fl : Nat} {clos : List (Str × Addr)} {q : Str} {Q : Value → Shared → Prop} (S : St C σ s) (hcode : env.code = .ref c) (hg0 : env.globals = mainGlobals) (hcl : closureFor lsc env = pure clos)
    (Cd : CodeHd C.h₀ c P) (hP : σ P = some (.tab lpos q)) (hB : BMod C)
    (h : ∀ f s2, St C σ s2 → Evo σ s.heap σ s2.heap → σ f = none → LamAt s2.heap f params body lsc clos q → Q (.ref f) s2) :
    wpAny C.M A (makeFunction "<lambda>" q params (.expr body) lsc env [] [] [] lpos fl) Q E s := by
  have hg : s.heap.Ns mainGlobals C.mg := C.hg.keeps S.base
  have Cs := Cd.keeps S.base
  obtain ⟨bm, ob, b1, b2, b3, b4, b5, b6⟩ := hB
  have hPb : C.h₀.get? P = none := (S.above _ _ hP).1
  have hbP : bm ≠ P := fun z => by rw [z, hPb] at b3; cases b3
  have hbG : bm ≠ mainGlobals := fun z => by
    obtain ⟨o, es, ep, e, hd, _⟩ := C.hg
    rw [z, e] at b3; cases b3; rw [hd] at b6; cases b6
  have hgP : mainGlobals ≠ P := fun z => by
    obtain ⟨o, es, ep, e, hd, _⟩ := C.hg
    rw [z, hPb] at e; cases e
  have hbs := S.base _ _ b3
  rcases S.rep _ _ hP with e | ⟨c', o, vs, t, e, e2, h1, h2, h3⟩
  · have fin : ∀ c' ctv h' tk, Heap.ExtBut P s.heap h' → s.heap.objs.size ≤ c' → CodeAt h' c' q → h'.get? P = some (tabObj (#[] ++ #[rawInt lpos.line, rawInt lpos.col, .ref c'])) →
        Q (.ref h'.objs.size) { s with heap := h'.push (kla_obj "<lambda>" q params body lsc clos ((C.mg "__name__").getD .none) c' ctv), toks := tk } := fun c' ctv h' tk hx hge hc hp => by
      have kp : ∀ b o, ¬ b = P → s.heap.get? b = some o → h'.get? b = some o := fun b o z w => hx b o z w
      have nt : ∀ b o, b = P → s.heap.get? b = some o → ¬ Imm o := fun b o z => by subst z; exact (S.rep _ _ hP).notTup o
      have tk' : TupKeep s.heap h' := tk_ow (ow := fun b => b = P) kp nt
      have S1 : St C σ { s with heap := h', toks := tk } := by
        refine ⟨fun b o w => kp b o (fun z => by rw [z, hPb] at w; cases w) (S.base b o w), fun a o w => ?_, S.above, S.gens, S.os⟩
        by_cases z : a = P
        · subst z
          rw [hP] at w; cases w
          obtain ⟨oc, vs, t, z1, z2, z3, z4⟩ := hc
          exact .inr ⟨c', oc, vs, t, by simpa using hp, z1, z2, z3, z4⟩
        · exact (S.rep a o w).at (fun x hx' => kp a x z hx') tk'
      have e1 : Evo σ s.heap σ h' := ⟨fun b o w n => kp b o (fun z => by rw [z, hP] at n; cases n) w, fun b o w => .inl ⟨o, w⟩, fun b o w => ⟨o, w⟩, tk'⟩
      have hsz : s.heap.objs.size ≤ h'.objs.size := by
        have : c' < h'.objs.size := by obtain ⟨oc, _, _, z1, _⟩ := hc; exact Heap.lt_size z1
        exact Nat.le_trans hge (Nat.le_of_lt this)
      exact h _ _ S1.push (e1.trans .push) (S.fresh' hsz) ⟨_, c', ctv, Heap.get?_push_size _ rfl, hc.mono fun _ _ _ w => Heap.get?_push_of_some _ w⟩
    have codeAt : ∀ {h' : Heap} {c' P' : Addr}, h'.CodeRec (.ref c') q → h'.TableAt c' P' #[] → CodeAt h' c' q := fun {h' c' P'} hr ht => by
      obtain ⟨_, oc, vs, t, z, z1, z2, z3⟩ := hr
      cases z
      obtain ⟨⟨o', vs', y1, y2, _⟩, _⟩ := ht
      rw [z1] at y1; cases y1
      exact ⟨_, vs, t, z1, y2, z2, z3⟩
    rw [makeFunction_eq]
    simp only [List.zip_nil_right, List.filterMap_nil, List.isEmpty_nil, if_true, pure_bind]
    unfold makeTail
    rw [hcl, hg0]
    refine wpAny_bind (wpAny_pure ?_)
    cases clos with
    | nil =>
      simp only [List.isEmpty_nil, if_true]
      refine wpAny_bind (wpAny_pure ?_)
      refine wpAny_bind (wpAny_functionCodeX hcode (Cs.code e trivial) (Cs.tab e) rfl fun c' h' tk hx hge hlt _ hrec htb hnew => ?_)
      have hg' := hg.extBut hx hgP
      refine wpAny_bind (wpAny_builtinsFor hg' b1 b2 (hx _ _ hbP hbs) b4 b5 b6 ?_)
      refine wpAny_bind (wpAny_nsGet hg' ?_)
      obtain ⟨P', _, _, ht'⟩ := hnew
      exact wpAny_bind (wpAny_pure (wpAny_newObj_type (fin c' .none h' tk hx hge (codeAt hrec ht') htb.2) (by size_fits)))
    | cons q0 r =>
      simp only [List.isEmpty_cons, Bool.false_eq_true, if_false]
      refine wpAny_bind (wpAny_newTextTuple ?_)
      refine wpAny_bind (wpAny_functionCodeX hcode ((Cs.keeps fun b o e => Heap.get?_push_of_some _ e).code (Heap.get?_push_of_some _ e) trivial) ((Cs.keeps fun b o e => Heap.get?_push_of_some _ e).tab (Heap.get?_push_of_some _ e)) rfl fun c' h' tk hx hge hlt _ hrec htb hnew => ?_)
      have hg' := (hg.push _).extBut hx hgP
      have hx' : Heap.ExtBut P s.heap h' := fun b o hb' e => hx b o hb' (Heap.get?_push_of_some _ e)
      have hge' : s.heap.objs.size ≤ c' := Nat.le_trans (by rw [Heap.size_push]; omega) hge
      refine wpAny_bind (wpAny_builtinsFor hg' b1 b2 (hx' _ _ hbP hbs) b4 b5 b6 ?_)
      refine wpAny_bind (wpAny_nsGet hg' ?_)
      obtain ⟨P', _, _, ht'⟩ := hnew
      exact wpAny_bind (wpAny_pure (wpAny_newObj_type (fin c' _ h' tk hx' hge' (codeAt hrec ht') htb.2) (by size_fits)))
  · refine kla_makeFunctionHit (mg := C.mg) (cv := .ref c') hcl hg0 hg hcode Cs e (by simp [TriplesOk, rawInt]) (by simp [codeAmong, rawInt]) ⟨bm, ob, b1, b2, hbG, hbP, hbs, b4, b5, b6⟩ fun ctv h' tk hk hsz => ?_
    have S1 : St C σ { s with heap := h', toks := tk } := S.ext hk
    exact h _ _ S1.push ((Evo.ext hk).trans .push) (S.fresh' hsz) ⟨_, c', ctv, Heap.get?_push_size _ rfl, o, vs, t, Heap.get?_push_of_some _ (hk _ _ e2), h1, h2, h3⟩

def lamOk (scope : Scope) : Bool := scope.names.all fun p => p.2 != .cell && (p.2 != .free || scope.names.lookup p.1 == some .free)
theorem lam_call {params : Arguments} {body : Expr} {lsc : Scope} {q pn : Str} {f : Addr} {v : Value} {x : V} {ρc : Rho} {E : XP} {Q : V → Store → Prop} (S : St C σ s) (F : Fm C σ s.heap env ρ) (hf : LamAt s.heap f params body lsc (clOf env.cells lsc.names []) q) (rv : VR s.heap v x) (hroom : A.depth < recursionLimit)
    (hbind : ∀ pm cdv ctv, bindArgs (kla_fn "<lambda>" q params body lsc (clOf env.cells lsc.names []) pm cdv ctv) ⟨[v], []⟩ = pure [(pn, v)]) (hco : lsc.isCoroutine = false) (hgen : lsc.isGenerator = false) (hk : lsc.kind = .function) (hpn : lsc.names.lookup pn = some .local)
    (hok : lamOk lsc = true) (hfree : (lsc.names.all fun p => p.2 != .free || (env.cells.lookup p.1).isSome) = true) (cap : Capt ρ lsc.names ρc)
    (h : ∀ L' cdv A', A'.handled = A.handled → A'.units ≤ A.units + 3 → Ev C A' (mkE lsc L' (clOf env.cells lsc.names []) (q ++ ".<locals>.") (some f) cdv (some L')) body ((pn, x) :: ρc) σ Q (fun _ _ => False)) :
    wpAny C.M A (call (.ref f) [v]) (EP C σ s.heap Q) E s := by
  have names_of : ∀ p ∈ lsc.names, p.2 ≠ .cell ∧ (p.2 = .free → lsc.names.lookup p.1 = some .free) := fun p hp => by
    have := List.all_eq_true.mp hok p hp
    simp only [Bool.and_eq_true, bne_iff_ne, ne_eq, Bool.or_eq_true, beq_iff_eq] at this
    refine ⟨this.1, fun e => ?_⟩
    rcases this.2 with z | z
    · exact absurd e z
    · exact z
  have cl_of : ∀ y c, (clOf env.cells lsc.names []).lookup y = some c → env.cells.lookup y = some c ∧ lsc.names.lookup y = some .free := fun y c hy => by
    rcases clOf_mem (mem_of_lookup hy) with z | ⟨z, e⟩
    · cases z
    · have h1 := List.all_eq_true.mp hfree _ z
      have h2 : (env.cells.lookup y).isSome = true := by simpa using h1
      obtain ⟨c', hc'⟩ := Option.isSome_iff_exists.mp h2
      rw [hc'] at e
      exact ⟨by rw [hc', e]; rfl, (names_of _ z).2 rfl⟩
  obtain ⟨pm, c', ctv, ho, hcd⟩ := hf
  refine wpAny_call (kla_callFunE hroom ho rfl hco hgen rfl hcd.rec' ?_)
  rw [hbind]
  refine wpAny_pure (wpAny_newFunctionEnv (fun p hp => (names_of p hp).1) (fun y hy => by rw [List.mem_singleton.mp hy]; exact hpn) (fun h₁ hns hsb => ⟨((C.lim).keeps S.base).fresh _ hsb, ?_⟩) hk)
  have kp : ∀ b o, s.heap.get? b = some o → h₁.get? b = some o := fun b o e => hsb.extBut b o (Nat.ne_of_lt (Heap.lt_size e)) (Heap.get?_push_of_some _ e)
  have e1 : Evo σ s.heap σ h₁ := .ext kp
  have F1 := F.evo e1
  have F2 : Fm C σ h₁ (mkE lsc s.heap.objs.size (clOf env.cells lsc.names []) (q ++ ".<locals>.") (some f) (.ref c') (some s.heap.objs.size)) ((pn, x) :: ρc) := by
    refine ⟨hk, ⟨_, hns, fun y w hy hw => ?_⟩, S.fresh, S.size, fun y c hy => ?_, fun y c hy => ?_, fun y z c hy hz => ?_⟩
    · have hw' : (if y = pn then some x else Rho.get ρc y) = some w := hw
      by_cases z : y = pn
      · subst z
        rw [if_pos rfl] at hw'; cases hw'
        exact ⟨v, by simp [List.lookup], rv.mono e1.tup⟩
      · rw [if_neg z] at hw'
        have h1 := (names_of _ (cap.get hw').2).2 rfl
        have h2 : lsc.names.lookup y = some .local := hy
        rw [h1] at h2; cases h2
    · obtain ⟨h1, h2⟩ := cl_of y c hy
      obtain ⟨ov, a, b⟩ := F1.cell y c h1
      refine ⟨ov, a, fun w hw => ?_⟩
      have hw' : (if y = pn then some x else Rho.get ρc y) = some w := hw
      by_cases z : y = pn
      · rw [z, hpn] at h2; cases h2
      · rw [if_neg z] at hw'
        exact b w (cap.get hw').1
    · obtain ⟨h1, _⟩ := cl_of y c hy
      obtain ⟨n1, n2, n3⟩ := F.ncell y c h1
      obtain ⟨ov, a, b⟩ := F.cell y c h1
      exact ⟨n1, Nat.ne_of_lt a.lt, n3⟩
    · exact F.apart y z c (cl_of y c hy).1 (cl_of z c hz).1
  refine kla_codeExpr (wpAny_mono (h s.heap.objs.size (.ref c') (A.deeper (mkE lsc s.heap.objs.size (clOf env.cells lsc.names []) (q ++ ".<locals>.") (some f) (.ref c') (some s.heap.objs.size))) rfl (Nat.le_refl _) { s with heap := h₁, toks := s.toks + 1 } (S.ext (t := s.toks + 1) kp) F2) (fun w s' z => ?_) fun _ _ z => z.elim)
  exact z.after e1

theorem ints_get {ks : List Int} {vs : List Value} (h : IntsAre vs ks) {i : Nat} (hi : i < vs.length) : ∃ t, vs.getD i Value.none = .int (ks.getD i 0) t := by
  induction h generalizing i with
  | nil => simp at hi
  | cons a u r ih =>
    cases i with
    | zero => exact ⟨u, rfl⟩
    | succ i => simpa using ih (i := i) (by simpa using hi)

/-- sorted(l, key=f) -/
theorem sorted_key {l f : Addr} {xs : List V} {key : V → Int} {params : Arguments} {body : Expr} {lsc : Scope} {clos : List (Str × Addr)} {q : Str} {Q : V → Store → Prop} (S : St C σ s) (F : Fm C σ s.heap env ρ) (hl : LstAt C σ l xs) (h64 : xs.length < 64) (hfn : σ f = none) (hL : LamAt s.heap f params body lsc clos q)
    (turn : ∀ x ∈ xs, ∀ s2 v, St C σ s2 → Fm C σ s2.heap env ρ → LamAt s2.heap f params body lsc clos q → VR s2.heap v x → wpAny C.M A.in1.in1 (call (.ref f) [v]) (EP C σ s2.heap (fun k σ3 => σ3 = σ ∧ k = .int (key x))) (fun _ _ => False) s2)
    (h : ∀ (a : Addr) (p : List Nat), σ a = none → p.Perm (List.range xs.length) → p.Pairwise (slt fun i j => decide (key (xs.getD i .none) < key (xs.getD j .none))) → Q (.ref a) (σ.upd a (.list (p.map fun i => xs.getD i .none)))) :
    wpAny C.M A (call (.builtin "sorted") [.ref l] [(Str.ofString "key", .ref f)]) (EP C σ s.heap Q) X s := by
  obtain ⟨⟨vs⟩, il, rl⟩ := hl.raw S
  simp only at rl
  have el := rl.length
  refine call_function_entry_kw kind_sorted plain_sorted entry_sorted (ksk_s1 _ _) ?_
  unfold Builtin.«sorted»
  refine wpAny_bind (m := checkCount "sorted" 1 1 _) (wpAny_pure ?_)
  refine wpAny_bind (collect_list il ?_ (by rw [sizeLine_eq]; omega))
  refine wpAny_bind (wpAny_newList ?_ (by rw [sizeLine_eq]; omega))
  have hsz : ((s.heap.push (seqObj "list" #[] 0)).update s.heap.objs.size (Obj.mapSeq (· ++ vs.toArray))).objs.size = s.heap.objs.size + 1 := by
    rw [Heap.size_update, size_push']
  generalize hH : ((s.heap.push (seqObj "list" #[] 0)).update s.heap.objs.size (Obj.mapSeq (· ++ vs.toArray))).push (seqObj "list" vs.toArray 0) = H
  have hHs : H.objs.size = s.heap.objs.size + 2 := by rw [← hH, size_push', hsz]
  have hoL : H.get? (s.heap.objs.size + 1) = some (seqObj "list" vs.toArray 0) := by
    rw [← hH, ← hsz]; exact Heap.get?_push_size _ rfl
  have keep : ∀ b o, s.heap.get? b = some o → H.get? b = some o := fun b o q => by
    have hlt : b < s.heap.objs.size := Heap.lt_size q
    rw [← hH, Heap.get?_push_ne _ _ _ (by rw [hsz]; exact Nat.ne_of_lt (Nat.lt_succ_of_lt hlt)), Heap.get?_update_ne _ _ _ _ (Nat.ne_of_lt hlt), Heap.get?_push_ne _ _ _ (Nat.ne_of_lt hlt)]
    exact q
  have old : ∀ b o, s.heap.get? b = some o → b ≠ s.heap.objs.size + 1 := fun b o e => Nat.ne_of_lt (Nat.lt_succ_of_lt (Heap.lt_size e))
  show wpAny _ _ _ _ _ { s with heap := H }
  rw [hsz]
  generalize hLL : s.heap.objs.size + 1 = LL at *
  have hLsz : s.heap.objs.size ≤ LL := by omega
  refine wpAny_bind (wpAny_holding (wpAny_call_entry_kw slot_list_sort ⟨_, hoL, rfl⟩ entry_list_sort ?_ (ksk_l1 _ _)))
  rw [ksk_t1]
  unfold ksk_tree
  refine wpAny_bind (listItems_at hoL rfl ?_)
  refine wpAny_bind (listUpdate_at hoL rfl ?_ (by rw [List.size_toArray, sizeLine_eq]; omega) (Nat.zero_le _))
  obtain ⟨e1, ho1⟩ : ∃ e1, (H.update LL (Obj.mapSeq fun _ => (#[] : Array Value))).get? LL = some (seqObj "list" #[] e1) := ⟨_, get?_update_seq hoL fun _ => #[]⟩
  refine wpAny_bind (seqEpoch_at ho1 rfl ?_)
  refine wpAny_bind (wpAny_newTuple ?_ (by show vs.length ≤ _; rw [sizeLine_eq]; omega))
  refine wpAny_bind (wpAny_newList ?_ (Nat.zero_le _))
  have hks : ((H.update LL (Obj.mapSeq fun _ => (#[] : Array Value))).push (seqObj "tuple" vs.toArray 0)).objs.size = s.heap.objs.size + 3 := by rw [size_push', Heap.size_update, hHs]
  generalize hG : ((H.update LL (Obj.mapSeq fun _ => (#[] : Array Value))).push (seqObj "tuple" vs.toArray 0)).push (seqObj "list" #[] 0) = G
  have hGL : G.get? LL = some (seqObj "list" #[] e1) := by rw [← hG]; exact Heap.get?_push_of_some _ (Heap.get?_push_of_some _ ho1)
  have hGk : G.get? (s.heap.objs.size + 3) = some (seqObj "list" #[] 0) := by rw [← hG, ← hks]; exact Heap.get?_push_size _ rfl
  have hGo : ∀ b o, s.heap.get? b = some o → G.get? b = some o := fun b o e => by
    rw [← hG]; exact Heap.get?_push_of_some _ (Heap.get?_push_of_some _ ((Heap.get?_update_other _ _ (Ne.symm (old b o e))).trans (keep b o e)))
  refine wpAny_holding ?_
  show wpAny _ _ (ksk_rest LL (.ref f) false vs.toArray e1 (.ref _)) _ _ { s with heap := G }
  rw [hks]
  generalize hkS : s.heap.objs.size + 3 = kS at *
  have hKs : s.heap.objs.size ≤ kS := by omega
  have hKL : kS ≠ LL := by omega
  have hσL : σ LL = none := S.fresh' hLsz
  have hσk : σ kS = none := S.fresh' hKs
  have oldk : ∀ b o, s.heap.get? b = some o → b ≠ kS := fun b o e z => by have := Heap.lt_size e; rw [z] at this; exact absurd this (Nat.not_lt.mpr hKs)
  have frk : C.h₀.get? kS = none := by
    cases z : C.h₀.get? kS with
    | none => rfl
    | some o => exact absurd rfl (oldk _ _ (S.base _ _ z))
  have frL : C.h₀.get? LL = none := by
    cases z : C.h₀.get? LL with
    | none => rfl
    | some o => exact absurd rfl (old _ _ (S.base _ _ z))
  unfold ksk_rest
  refine wpAny_bind (wpAny_rule ?_)
  first
    | rw [List.forIn_toArray]
    | (rw [← Array.forIn_toList]; simp only [List.toList_toArray])
    | rw [← Array.forIn_toList]
  refine wpAny_bind (ksk_fold (fun i s' => ∃ kA e, St C σ s' ∧ Evo σ s.heap σ s'.heap ∧ s'.heap.get? LL = some (seqObj "list" #[] e1) ∧ s'.heap.get? kS = some (seqObj "list" kA e) ∧ IntsAre kA.toList ((xs.take i).map key)) vs 0 { s with heap := G }
    ⟨#[], 0, S.ext (t := s.toks) hGo, .ext hGo, hGL, hGk, by simpa using IntsAre.nil⟩ ?step ?done)
  case step =>
    rintro j x s' hx ⟨kA, e, S', E', hL', hk', hI⟩
    simp only [Nat.zero_add] at hI ⊢
    obtain ⟨y, hy, ry⟩ := rl.get' hx
    have hj : j < xs.length := (List.getElem?_eq_some_iff.mp hy).1
    have hzk : kA.size ≤ 64 := by
      have h1 := hI.length
      simp only [Array.length_toList, List.length_map, List.length_take] at h1
      omega
    refine wpAny_bind (wpAny_attempt (wpAny_mono (turn y (List.mem_of_getElem? hy) s' x S' (F.evo E') (hL.evo E' hfn) (ry.mono E'.tup)) (fun k s'' he => ?_) fun _ _ hF => hF.elim))
    obtain ⟨kx, σ3, ⟨rfl, rfl⟩, rk, S2, E2⟩ := he
    cases rk
    rename_i tk
    have hL2 := E2.keep _ _ hL' hσL
    have hk2 := E2.keep _ _ hk' hσk
    obtain ⟨c2, hc2⟩ : ∃ c2, (s''.heap.update kS (Obj.mapSeq (·.push (Value.int (key y) tk)))).get? kS = some (seqObj "list" (kA.push (.int (key y) tk)) c2) := ⟨_, get?_update_seq hk2 (·.push (.int (key y) tk))⟩
    try dsimp only
    refine wpAny_bind (listUpdate_at hk2 rfl ?_ (by rw [sizeLine_eq]; omega) (Nat.le_trans (Nat.le_of_eq (Array.size_push ..)) (by rw [sizeLine_eq]; omega)))
    have kp : ∀ b o, ¬ b = kS → s''.heap.get? b = some o → (s''.heap.update kS (Obj.mapSeq (·.push (Value.int (key y) tk)))).get? b = some o := fun b o z w => (Heap.get?_update_other _ _ (Ne.symm z)).trans w
    have nt : ∀ b o, b = kS → s''.heap.get? b = some o → ¬ Imm o := fun b o z w => by subst z; rw [hk2] at w; cases w; exact Imm.not (by simp) (by simp) (by simp)
    refine wpAny_pure ⟨rfl, kA.push (.int (key y) tk), c2, S2.ow (t := s''.toks) (ow := fun b => b = kS) kp nt (fun b z => z ▸ hσk) (fun b z => z ▸ frk), (E'.trans E2).ow (ow := fun b => b = kS) kp (fun b z => ?_), kp _ _ (Ne.symm hKL) hL2, hc2, ?_⟩
    · subst z; exact get?_fresh' hKs
    · have ea : (kA.push (Value.int (key y) tk)).toList = kA.toList ++ [Value.int (key y) tk] := by simp
      rw [ea, List.take_add_one, hy]
      simpa using ksk_snoc hI
  case done =>
    rintro s' ⟨kA, e, S', E', hL', hk', hI⟩
    have hI' : IntsAre kA.toList (xs.map key) := by
      rwa [List.take_of_length_le (by omega)] at hI
    have hkl : kA.toList.length = vs.length := by rw [hI'.length, List.length_map, el]
    have hks2 : kA.size = vs.length := by simpa using hkl
    try dsimp only
    refine wpAny_bind (listItems_at hk' rfl ?_)
    have fin : ∀ (p : List Nat) (st : SortSt), (arrOf st).map (·.2) = (p.map fun i => vs.getD i Value.none).toArray → failedOf st = none → p.Perm (List.range vs.length) → p.Pairwise (slt fun i j => decide ((xs.map key).getD i 0 < (xs.map key).getD j 0)) →
        wpAny C.M A.in1.in1 (ksk_tail LL false e1 (.ref kS) st) (fun fin s' => ∃ v, fin = .done (.ret v) ∧ (fun _ s' => wpAny C.M A.in1 (pure (PySem.Fin.done (.ret (.ref LL)))) (fun fin s' => ∃ v, fin = .done (.ret v) ∧ EP C σ s.heap Q v s') X s') v s') X s' := by
      intro p st hout hf hp hs
      have hlen : p.length = vs.length := by simpa using hp.length_eq
      unfold ksk_tail
      try dsimp only
      refine wpAny_bind (listUpdate_at hk' rfl ?_ (by rw [sizeLine_eq]; omega) (Nat.zero_le _))
      refine wpAny_bind (wpAny_letGo ?_)
      have hL2 : (s'.heap.update kS (Obj.mapSeq fun _ => (#[] : Array Value))).get? LL = some (seqObj "list" #[] e1) := (Heap.get?_update_other _ _ hKL).trans hL'
      refine wpAny_bind (seqEpoch_at hL2 rfl ?_)
      rw [hout, hf]
      simp only [Bool.false_eq_true, if_false, bne_self_eq_false]
      refine wpAny_bind (listUpdate_at hL2 rfl ?_ (Nat.zero_le _) (by rw [List.size_toArray, List.length_map, hlen, sizeLine_eq]; omega))
      refine wpAny_pure ⟨_, rfl, wpAny_pure ⟨_, rfl, ?_⟩⟩
      have kp : ∀ b o, ¬ (b = kS ∨ b = LL) → s'.heap.get? b = some o → ((s'.heap.update kS (Obj.mapSeq fun _ => (#[] : Array Value))).update LL (Obj.mapSeq fun _ => (p.map fun i => vs.getD i Value.none).toArray)).get? b = some o := fun b o z w =>
        (Heap.get?_update_other _ _ (fun y => z (.inr y.symm))).trans ((Heap.get?_update_other _ _ (fun y => z (.inl y.symm))).trans w)
      have nt : ∀ b o, (b = kS ∨ b = LL) → s'.heap.get? b = some o → ¬ Imm o := fun b o z w => by
        rcases z with rfl | rfl
        · rw [hk'] at w; cases w; exact Imm.not (by simp) (by simp) (by simp)
        · rw [hL'] at w; cases w; exact Imm.not (by simp) (by simp) (by simp)
      have S3 : St C σ { s' with heap := (s'.heap.update kS (Obj.mapSeq fun _ => (#[] : Array Value))).update LL (Obj.mapSeq fun _ => (p.map fun i => vs.getD i Value.none).toArray), toks := s'.toks } :=
        S'.ow (ow := fun b => b = kS ∨ b = LL) kp nt (fun b z => by rcases z with rfl | rfl <;> assumption) (fun b z => by rcases z with rfl | rfl <;> assumption)
      have E3 : Evo σ s.heap σ ((s'.heap.update kS (Obj.mapSeq fun _ => (#[] : Array Value))).update LL (Obj.mapSeq fun _ => (p.map fun i => vs.getD i Value.none).toArray)) := E'.ow (ow := fun b => b = kS ∨ b = LL) kp (fun b z => by
        rcases z with rfl | rfl
        · exact get?_fresh' hKs
        · exact get?_fresh' hLsz)
      have bound : ∀ i ∈ p, i < vs.length := fun i hi => by simpa using hp.mem_iff.mp hi
      have rr : ∀ u : List Nat, (∀ i ∈ u, i < vs.length) → VRs s.heap (u.map fun i => vs.getD i Value.none) (u.map fun i => xs.getD i .none) := fun u => by
        induction u with
        | nil => exact fun _ => .nil
        | cons i u ih =>
          intro hb
          have hi : i < vs.length := hb i (.head _)
          obtain ⟨w, hw, rw'⟩ := rl.get (i := i) (y := xs.getD i .none) (by have hi' : i < xs.length := by omega
                                                                            simp [hi'])
          have : w = vs.getD i Value.none := by simp [hw, List.getD]
          exact .cons (show VR s.heap (vs.getD i Value.none) (xs.getD i .none) from this ▸ rw') (ih fun j hj => hb j (.tail _ hj))
      obtain ⟨S4, E4⟩ := S3.adopt (a := LL) (o := .list (p.map fun i => xs.getD i .none)) (σ0 := σ) (h0 := s.heap) ⟨_, ⟨_, get?_update_seq hL2 fun _ => _⟩, by simpa using (rr p bound).mono E3.tup⟩ (Nat.le_trans S.size hLsz) E3 (get?_fresh' hLsz)
      refine ⟨.ref LL, _, h LL p hσL (el ▸ hp) (hs.imp_of_mem fun {i j} hi hj z => ?_), .ref _, S4, E4⟩
      have g : ∀ i, i < vs.length → (xs.map key).getD i 0 = key (xs.getD i .none) := fun i hi => by
        have hi' : i < xs.length := by omega
        simp [hi']
      unfold slt at z ⊢
      dsimp only at z ⊢
      rw [g i (bound i hi), g j (bound j hj)] at z
      exact z
    unfold ksk_end
    try dsimp only
    simp only [Bool.false_eq_true, if_false]
    by_cases h2 : vs.toArray.size < 2
    · rw [if_pos h2, if_pos h2]
      rw [List.size_toArray] at h2
      refine wpAny_bind (wpAny_pure ?_)
      rw [StateT.run_pure]
      refine wpAny_bind (wpAny_pure ?_)
      refine fin (List.range vs.length) _ ?_ rfl (List.Perm.refl _) ?_
      · show (kA.zip vs.toArray).map (·.2) = _
        apply Array.toList_inj.mp
        refine List.ext_getElem (by simp [hks2]) fun i h1 h2 => ?_
        simp at h2
        simp [h2]
      · match vs, h2 with
        | [], _ => exact .nil
        | [v], _ => exact .cons (fun _ q => (nomatch q)) .nil
        | _ :: _ :: _, h2 => simp at h2; omega
    · rw [if_neg h2, if_neg h2]
      rw [List.size_toArray] at h2
      rw [ksk_kind hI' (by omega)]
      refine wpAny_bind (wpAny_pure ?_)
      have run : (kas_sort vs.length).kasWp (kas_ask C.prog C.w A.in1.in1 oneType' kA.toList) (fun p s2 => s2 = s' ∧ p.toList.Perm (List.range vs.length) ∧ p.toList.Pairwise (slt fun i j => decide ((xs.map key).getD i 0 < (xs.map key).getD j 0))) s' := by
        refine sort_ok (intSWO fun i => (xs.map key).getD i 0) (fun i j C hi hj hC => ?_) (by omega) fun P' hp hs => ⟨rfl, hp, hs⟩
        obtain ⟨t1, z1⟩ := ints_get hI' (i := i) (by omega)
        obtain ⟨t2, z2⟩ := ints_get hI' (i := j) (by omega)
        unfold kas_ask
        rw [z1, z2]
        exact kat_lt_int hC
      refine wpAny_bind (wpAny_mono (kat_run (ks := kA.toList) (vs := vs) (Q := fun st' s2 => s2 = s' ∧ ∃ p : Array Nat, arrOf st' = p.map (kas_item (kA.toList.toArray.zip vs.toArray)) ∧ failedOf st' = none ∧ p.toList.Perm (List.range vs.length) ∧ p.toList.Pairwise (slt fun i j => decide ((xs.map key).getD i 0 < (xs.map key).getD j 0)))
        hkl (by omega) (by omega) (fun p st' s2 a1 a2 a3 a4 => ⟨a4.1, p, a2, a3, a4.2⟩) run) ?_ fun _ _ e => e)
      rintro ⟨⟨⟩, st'⟩ s2 ⟨rfl, p, har, hf, hp, hs⟩
      exact fin p.toList st' (kat_snds hkl har) hf hp hs
end
end Mine

set_option autoImplicit false
set_option linter.unusedVariables false
set_option maxRecDepth 100000
set_option maxHeartbeats 4000000
namespace Mine
open PySem PySem.W PySem.SeqAt PyProof.Rows PySem.Calls
section
variable {C : Cx} {A : Around} {ρ : Rho} {σ : Store} {X : XP} {s : Shared}
theorem Ags.one {env : Env} {e : Expr} {pos : Pos} {R : V → Store → Prop} (h : Ev C A env e ρ σ R X) (he : starEach [e] env = (false, eval e env) :: starEach [] env) : Ags C A env pos [e] ρ σ (fun vs σ1 => ∃ v, vs = [v] ∧ R v σ1) X :=
  Ags.cons (h.mono' fun v σ1 p => Ags.nil ⟨v, rfl, p⟩) he
/-- sorted(e, key=lambda pn: body) -/
theorem Ev.sortLam {sc lsc : Scope} {L c P : Addr} {cells : List (Str × Addr)} {q0 pn : Str} {fn : Option Addr} {fr : Option Addr} {e body : Expr} {params : Arguments} {lpos kp pos p1 : Pos} {ρc : Rho} {Q : V → Store → Prop}
    (Cd : CodeHd C.h₀ c P) (hB : BMod C) (hroom : A.depth < recursionLimit)
    (hs : sc.names.lookup (Str.ofString "sorted") = some .globalImplicit) (hsk : nsIn C.K mainGlobals (Str.ofString "sorted") = some none) (cap : Capt ρ lsc.names ρc)
    (hdef : defaultsOf params (mkE sc L cells q0 fn (.ref c) fr) = ([], []))
    (hbind : ∀ v cl pm cdv ctv, bindArgs (kla_fn "<lambda>" (q0 ++ "<lambda>") params body lsc cl pm cdv ctv) ⟨[v], []⟩ = pure [(pn, v)]) (hco : lsc.isCoroutine = false) (hgen : lsc.isGenerator = false) (hk : lsc.kind = .function) (hpn : lsc.names.lookup pn = some .local)
    (hok : lamOk lsc = true) (hfree : (lsc.names.all fun p => p.2 != .free || (cells.lookup p.1).isSome) = true)
    (hev : eval (.Call (.Name (Str.ofString "sorted") p1) [e] [⟨some (Str.ofString "key"), .Lambda params body lsc lpos, kp⟩] pos) (mkE sc L cells q0 fn (.ref c) fr) =
      (do callWith pos (← eval (.Name (Str.ofString "sorted") p1) (mkE sc L cells q0 fn (.ref c) fr)) [] (backTo pos (starEach [e] (mkE sc L cells q0 fn (.ref c) fr))) (backToKw pos (keywordEach [⟨some (Str.ofString "key"), .Lambda params body lsc lpos, kp⟩] (mkE sc L cells q0 fn (.ref c) fr)))))
    (hst : starEach [e] (mkE sc L cells q0 fn (.ref c) fr) = (false, eval e (mkE sc L cells q0 fn (.ref c) fr)) :: starEach [] (mkE sc L cells q0 fn (.ref c) fr))
    (h : Ev C A (mkE sc L cells q0 fn (.ref c) fr) e ρ σ (fun v σ1 => ∃ (l : Addr) (xs : List V) (key : V → Int), v = .ref l ∧ LstAt C σ1 l xs ∧ xs.length < 64 ∧ σ1 P = some (.tab lpos (q0 ++ "<lambda>")) ∧
      (∀ x ∈ xs, ∀ L' f cdv A', A'.handled = A.handled → A'.units ≤ A.units + 6 → Ev C A' (mkE lsc L' (clOf cells lsc.names []) (q0 ++ "<lambda>" ++ ".<locals>.") (some f) cdv (some L')) body ((pn, x) :: ρc) σ1 (fun k σ3 => σ3 = σ1 ∧ k = .int (key x)) (fun _ _ => False)) ∧
      ∀ (a : Addr) (p : List Nat), σ1 a = none → p.Perm (List.range xs.length) → p.Pairwise (slt fun i j => decide (key (xs.getD i .none) < key (xs.getD j .none))) → Q (.ref a) (σ1.upd a (.list (p.map fun i => xs.getD i .none)))) X) :
    Ev C A (mkE sc L cells q0 fn (.ref c) fr) (.Call (.Name (Str.ofString "sorted") p1) [e] [⟨some (Str.ofString "key"), .Lambda params body lsc lpos, kp⟩] pos) ρ σ Q X := by
  intro s S F
  rw [hev]
  refine wpAny_bind (wpAny_mono (Ev.nblt (Q := fun x σ1 => x = .blt "sorted" ∧ σ1 = σ) hs hsk PyProof.Rows.Boot.sorted (.blt _) ⟨rfl, rfl⟩ (by decide) rfl s S F) ?_ fun _ _ z => z)
  rintro v0 s0 ⟨x0, σ0, ⟨rfl, rfl⟩, r0, S0, e0⟩
  cases r0
  refine callWith_of (P := fun h => ∀ b o, C.h₀.get? b = some o → h.get? b = some o) (by rw [hst]; rfl) Kp.blt ?_
  refine evalArgs_kw2 rfl ?_ hst
  refine wpAny_mono (Ags.one (pos := pos) h hst s0 S0 (F.evo e0)) ?_ fun _ _ z => z
  rintro vs s1 ⟨ys, σ1, ⟨v, rfl, l, xs, key, rfl, hl, h64, hP, hturn, hq⟩, r1, S1, e1⟩
  refine kwAll_cons (kla_eval hdef ?_)
  refine lam_make (c := c) S1 rfl rfl (closureFor_mine (env := mkE sc L cells q0 fn (.ref c) fr) hfree) Cd hP hB fun f s2 S2 e2 hfn hL => ?_
  refine kwAll_nil ⟨S2.base, ?_⟩
  cases r1 with
  | cons ra rb =>
  cases ra; cases rb
  have F2 := (F.evo e0).evo (e1.trans e2)
  show wpAny C.M A (PySem.call (Value.builtin "sorted") [Value.ref l] [(Str.ofString "key", Value.ref f)]) _ _ _
  refine wpAny_mono (sorted_key (X := X) S2 F2 hl h64 hfn hL (fun x hx s3 v S3 F3 hL3 rv => ?_) hq) (fun _ _ z => ((z.after e2).after e1).after e0) fun _ _ z => z
  exact lam_call (env := mkE sc L cells q0 fn (.ref c) fr) S3 F3 hL3 rv hroom (fun pm cdv ctv => hbind v _ pm cdv ctv) hco hgen hk hpn hok hfree cap fun L' cdv A' a1 a2 => hturn x hx L' f cdv A' a1 (Nat.le_trans a2 (by show A.units + 1 + 1 + 3 ≤ _; omega))
end
end Mine

set_option autoImplicit false
set_option linter.unusedVariables false
set_option maxRecDepth 100000
namespace Mine
open PySem PySem.W PySem.SeqAt PyProof.Rows
section
variable {C : Cx} {A : Around} {env : Env} {ρ : Rho} {σ : Store} {X : XP} {s : Shared}
theorem Ev.nfree {sc : Scope} {L : Addr} {cells : List (Str × Addr)} {q : Str} {fn : Option Addr} {cd : Value} {fr : Option Addr} {x : Str} {pos : Pos} {v : V} {Q : V → Store → Prop} (hk : sc.names.lookup x = some .free) (hv : ρ.get x = some v) (h : Q v σ) (hc : (cells.lookup x).isSome = true) (hd : (x == ("__debug__" : Str)) = false) (hn : (x == ("__classdict__" : Str)) = false) :
    Ev C A (mkE sc L cells q fn cd fr) (.Name x pos) ρ σ Q X := by
  obtain ⟨c, hc⟩ := Option.isSome_iff_exists.mp hc
  exact Ev.free hk hc hv h hd hn
theorem Br.both {b : Bool} {p q : Prop} (h1 : p) (h2 : q) : if b = true then p else q := by split <;> assumption
theorem Exs.cut {st : Stmt} {ss : List Stmt} {Q : FV → Rho → Store → Prop} (P : Rho → Store → Prop) (h1 : Ex C A env st ρ σ (fun g ρ' σ' => g = .next ∧ P ρ' σ') X) (h2 : ∀ ρ' σ', P ρ' σ' → Exs C A env ss ρ' σ' Q X) : Exs C A env (st :: ss) ρ σ Q X :=
  Exs.cons (h1.mono fun g ρ' σ' ⟨e, p⟩ => by subst e; exact h2 ρ' σ' p)
/- slices: of a list, of a text -/
def SliceWP (C : Cx) (o : V) (a b : Option Int) (σ3 : Store) (Q : V → Store → Prop) : Prop :=
  (∃ l xs, o = .ref l ∧ LstAt C σ3 l xs ∧ xs.length ≤ sizeLine ∧ ∀ c, σ3 c = Option.none → Q (.ref c) (σ3.upd c (.list (pySlice xs a b)))) ∨
  (∃ x, o = .str x ∧ x.length ≤ sizeLine ∧ Q (.str (Txt.slice x a b)) σ3)
theorem SliceWP.str {x : Str} {a b : Option Int} {Q : V → Store → Prop} (hz : x.length ≤ sizeLine) (h : Q (.str (Txt.slice x a b)) σ) : SliceWP C (.str x) a b σ Q := .inr ⟨x, rfl, hz, h⟩
theorem IsPart.opt {v : Value} {k : Option Int} (p : IsPart v k) : ∃ l : Option (Int × Tok), v = partValue l ∧ l.map (·.1) = k := by
  cases p with
  | none => exact ⟨none, rfl, rfl⟩
  | int i t => exact ⟨some (i, t), rfl, rfl⟩
theorem Ev.slice {value : Expr} {lo hi : Option Expr} {p pos : Pos} {Q : V → Store → Prop}
    (h : Ev C A env value ρ σ (fun o σ1 => Prt C A env lo ρ σ1 (fun a σ2 => Prt C A env hi ρ σ2 (fun b σ3 => SliceWP C o a b σ3 Q) X) X) X) : Ev C A env (.Subscript value (.Slice lo hi Option.none p) pos) ρ σ Q X := by
  intro s S F
  rw [eval_Subscript]
  refine wpAny_bind (wpAny_mono (h s S F) ?_ fun _ _ z => z)
  rintro o s1 ⟨x, σ1, h1, r1, S1, e1⟩
  refine wpAny_bind (wpAny_holding ?_)
  rw [arm_eval_Slice]
  refine wpAny_bind (wpAny_mono (h1.run S1 (F.evo e1)) ?_ fun _ _ z => z)
  rintro vl s2 ⟨a, σ2, h2, p2, S2, e2⟩
  refine wpAny_bind (wpAny_holding (wpAny_mono (h2.run S2 ((F.evo e1).evo e2)) ?_ fun _ _ z => z))
  rintro vu s3 ⟨b, σ3, (⟨l, xs, rfl, hl, hz, q⟩ | ⟨x, rfl, hz, q⟩), p3, S3, e3⟩
  · cases r1
    refine wpAny_bind (wpAny_holding (wpAny_pure (wpAny_newObj_type ?_)))
    have S4 : St C σ3 { s3 with heap := s3.heap.push { cls := .type "slice", data := .fields #[vl, vu, .none] } } := S3.push
    obtain ⟨items, il, rl⟩ := hl.raw S4
    have e := rl.length
    simp only [Array.length_toList] at e
    refine wpAny_bind (wpAny_standAt (getitem_mine (.list il) (wpAny_getItem_list_slice (lo := a) (hi := b) (st := none) il ⟨_, Heap.get?_push_size _ rfl, rfl, rfl⟩ p2 p3 .none (by simp) ?_ (by rw [e]; exact hz))))
    obtain ⟨S5, e5⟩ := S4.new (t := s3.toks) (rep_list_push (C := C) (vs := (slicePick items a b none).toList) (xs := pySlice xs a b) (by rw [slicePick_list]; unfold pySlice; simp only [Array.length_toList, e]; exact rl.pick _))
    refine ⟨.ref _, _, q _ S4.fresh, .ref _, by simpa using S5, ?_⟩
    have := (((e1.trans e2).trans e3).trans .push).trans e5
    simpa using this
  · cases r1
    refine wpAny_bind (wpAny_holding (wpAny_pure (wpAny_newObj_type ?_)))
    obtain ⟨l, rfl, rfl⟩ := IsPart.opt p2
    obtain ⟨u, rfl, rfl⟩ := IsPart.opt p3
    refine wpAny_bind (wpAny_standAt (getitem_mine .str (wpAny_getItem_str_slice (l := l) (u := u) (st := none) ⟨_, Heap.get?_push_size _ rfl, rfl, rfl⟩ rfl (post_val_or_str ⟨Nat.le_trans (Txt.slice_le x _ _) hz, fun t' k => ?_⟩))))
    exact ⟨_, σ3, q, .str _ _, (S3.push).toks _, ((e1.trans e2).trans e3).trans .push⟩

theorem CallWP.abs {a : Int} {Q : V → Store → Prop} (h : Q (.int (if a < 0 then -a else a)) σ) : CallWP C A (.builtin "abs") [.int a] σ Q X := by
  intro s vs S r
  cases r with
  | cons r1 r2 =>
  cases r2; cases r1
  exact call_abs_int fun u tk => EP.pureT S h (.int _ _)
end

theorem slice_cps (x : Str) (l u : Option Int) (a n : Nat) (h : a + n ≤ x.length) (e : Builtin.Str.strSliceIndices l u 1 x.length = (List.range n).map fun i => a + i) : (Txt.slice x l u).cps.toList = (x.cps.toList.drop a).take n := by
  have hx : x.cps.toList.length = x.length := by simp [Str.length]
  unfold Txt.slice
  rw [e]
  split
  · rename_i z
    simp only [List.length_map, List.length_range, beq_self_eq_true, Bool.true_and, beq_iff_eq] at z
    have : a = 0 := by omega
    subst this
    rw [List.drop_zero, List.take_of_length_le (by omega)]
  · have e2 : (List.filterMap (fun i => x.cps[i]?) ((List.range n).map fun i => a + i)) = ((List.range n).map fun i => a + i).filterMap (x.cps.toList[·]?) := by simp
    show (List.filterMap (fun i => x.cps[i]?) ((List.range n).map fun i => a + i)).toArray.toList = _
    rw [e2, pick_range _ a n (by omega)]
theorem slice_upto (x : Str) (k : Nat) (hk : k ≤ x.length) : (Txt.slice x none (some (k : Int))).cps.toList = x.cps.toList.take k := by
  have e : Builtin.Str.strSliceIndices none (some (k : Int)) 1 x.length = (List.range k).map fun i => 0 + i := by
    unfold Builtin.Str.strSliceIndices
    have h1 : ¬ ((k : Int) < 0) := by omega
    have h2 : max 0 (min (k : Int) (x.length : Int)) = ((k : Nat) : Int) := by omega
    simp only [h1, if_false, show (1 : Int) > 0 by decide, if_true, h2]
    have := sliceRange_one 0 k
    simpa using this
  rw [slice_cps x none (some (k : Int)) 0 k (by omega) e, List.drop_zero]
theorem slice_from (x : Str) (k : Nat) (hk : k ≤ x.length) : (Txt.slice x (some (k : Int)) none).cps.toList = x.cps.toList.drop k := by
  have hx : x.cps.toList.length = x.length := by simp [Str.length]
  have e : Builtin.Str.strSliceIndices (some (k : Int)) none 1 x.length = (List.range (x.length - k)).map fun i => k + i := by
    unfold Builtin.Str.strSliceIndices
    have h1 : ¬ ((k : Int) < 0) := by omega
    have h2 : max 0 (min (k : Int) (x.length : Int)) = ((k : Nat) : Int) := by omega
    simp only [h1, if_false, show (1 : Int) > 0 by decide, if_true, h2]
    exact sliceRange_one k x.length
  rw [slice_cps x (some (k : Int)) none k (x.length - k) (by omega) e, List.take_of_length_le (by simp [hx])]
theorem cps_append (x y : Str) : (x ++ y).cps.toList = x.cps.toList ++ y.cps.toList := by
  show (x.cps ++ y.cps).toList = _
  simp
end Mine

open PySem PySem.W PySem.SeqAt PyProof.Rows
set_option Elab.async false
set_option maxRecDepth 100000
set_option maxHeartbeats 8000000
set_option linter.unusedVariables false
set_option linter.unusedSimpArgs false
open_top hd for PySem.Challenge.rw_uf030038_02
namespace Mine
variable {C : Cx} {A : Around} {σ : Store} {X : XP}
local macro_rules | `(tactic| walk_at "mK") => do let h := Lean.mkIdent `hK; `(tactic| (rw [$h:ident]; k_is))
local macro_rules | `(tactic| walk_at "mne") => `(tactic| exact ofS_ne (by decide))
local macro_rules | `(tactic| walk_at "mget") => `(tactic| first
  | with_reducible exact Rho.get_hit
  | with_reducible exact Rho.gp_hit
  | with_reducible assumption
  | ((with_reducible refine' Rho.get_miss ?k0 ?k1); (case k0 => walk_at "mne"); (case k1 => walk_at "mget"))
  | ((with_reducible refine' Rho.gp_miss4 ?k0 ?k1 ?k2 ?k3 ?k4); (case k0 => walk_at "mne"); (case k1 => walk_at "mne"); (case k2 => walk_at "mne"); (case k3 => walk_at "mne"); (case k4 => walk_at "mget"))
  | ((with_reducible refine' Rho.gp_miss ?k0 ?k1); (case k0 => walk_at "mne"); (case k1 => walk_at "mget")))
local macro_rules | `(tactic| walk_at "mput") => `(tactic| first
  | with_reducible exact Rho.put_hit
  | with_reducible exact Rho.put_nil
  | ((with_reducible refine' Rho.put_miss ?k0 ?k1); (case k0 => walk_at "mne"); (case k1 => walk_at "mput"))
  | with_reducible exact rfl)
local macro_rules | `(tactic| walk_at "mcapt") => `(tactic| first
  | exact Capt.nil
  | ((with_reducible refine' Capt.take ?k0 ?k1); (case k0 => walk_at "mget"); (case k1 => walk_at "mcapt"))
  | ((with_reducible refine' Capt.skip ?k0 ?k1); (case k0 => decide); (case k1 => walk_at "mcapt")))
local macro_rules | `(tactic| walk_at "mvr") => `(tactic| first | exact VR.ref _ | exact VR.int _ _ | exact VR.str _ _ | exact VR.typ _ | exact VR.blt _ | exact VR.bool _ | exact VR.none)
local macro_rules | `(tactic| walk_at "mname") => `(tactic| first
  | ((with_reducible refine' Ev.nloc ?k0 ?k1 ?_ ?k3); (case k0 => decide +kernel); (case k1 => walk_at "mget"); (case k3 => kernel_rfl))
  | ((with_reducible refine' Ev.ncel ?k0 ?k1 ?_ ?k3 ?k4); (case k0 => decide +kernel); (case k1 => walk_at "mget"); (case k3 => kernel_rfl); (case k4 => kernel_rfl))
  | ((with_reducible refine' Ev.nfree ?k0 ?k1 ?_ ?k3 ?k4 ?k5); (case k0 => decide +kernel); (case k1 => walk_at "mget"); (case k3 => kernel_rfl); (case k4 => kernel_rfl); (case k5 => kernel_rfl))
  | ((with_reducible refine' Ev.nglob ?k0 ?k1 ?k2 ?_ ?k4); (case k0 => decide +kernel); (case k1 => walk_at "mK"); (case k2 => walk_at "mvr"); (case k4 => kernel_rfl))
  | ((with_reducible refine' Ev.nblt ?k0 ?k1 ?k2 ?k3 ?_ ?k5 ?k6); (case k0 => decide +kernel); (case k1 => walk_at "mK"); (case k2 => boot_by_name); (case k3 => walk_at "mvr"); (case k5 => decide); (case k6 => kernel_rfl)))
local macro_rules | `(tactic| walk_at "mcomp") => `(tactic| ((with_reducible refine' Ev.lcomp ?k0 ?k1 ?k2 ?k3 ?_ ?k5 ?k6); (case k0 => walk_at "mcapt"); (case k1 => decide +kernel); (case k2 => decide +kernel); (case k3 => rfl); (case k5 => kernel_rfl); (case k6 => intro _; kernel_rfl)))
local macro_rules | `(tactic| walk_at "mcompA") => `(tactic| ((with_reducible refine' Ex.lassign ?k0 ?k1 ?k2 ?k3 ?k4 ?_ ?k6 ?k7 ?k8 ?k9); (case k0 => walk_at "mcapt"); (case k1 => decide +kernel); (case k2 => decide +kernel); (case k3 => rfl); (case k4 => decide +kernel); (case k6 => kernel_rfl); (case k7 => kernel_rfl); (case k8 => kernel_rfl); (case k9 => intro _; kernel_rfl)))
local macro_rules | `(tactic| walk_at "msz") => `(tactic| exact small_le rfl)
local macro_rules | `(tactic| walk_at "mnea") => `(tactic| first | with_reducible assumption | exact Ne.symm (by with_reducible assumption))
local macro_rules | `(tactic| walk_at "mst") => `(tactic| first
  | with_reducible exact Store.hit
  | with_reducible assumption
  | ((with_reducible refine' Store.miss ?k0 ?k1); (case k0 => walk_at "mnea"); (case k1 => walk_at "mst"))
  | ((with_reducible refine' Store.at_fresh ?k0 ?k1); (case k0 => walk_at "mst"); (case k1 => walk_at "mst")))
local macro_rules | `(tactic| walk_at "mty") => `(tactic| ((with_reducible refine' TyGo.mk ?k0 ?_); (case k0 => first | exact TyV.str | ((with_reducible refine' TyV.list ?h); (case h => walk_at "mst")) | ((with_reducible refine' TyV.sd ?h); (case h => walk_at "mst")) | ((with_reducible refine' TyV.id ?h); (case h => walk_at "mst")))))
local macro_rules | `(tactic| walk_at "mom") => `(tactic| first | omega | (simp only [List.length_map, List.length_append, List.length_reverse, List.length_cons, List.length_nil, sizeLine_eq] at *; omega) | (simp [sizeLine_eq] at *; omega))
local macro_rules | `(tactic| walk_at "msput") => `(tactic| first
  | with_reducible exact sput_nil
  | with_reducible exact sput_hit)
local macro_rules | `(tactic| walk_at "msget") => `(tactic| first
  | with_reducible exact sget_hit
  | with_reducible assumption
  | with_reducible exact sget_nil)
local macro_rules | `(tactic| walk_at "mlst") => `(tactic| first | ((with_reducible refine' LstAt.st ?h); (case h => walk_at "mst")) | with_reducible assumption)
local macro_rules | `(tactic| walk_at "mhasty") => `(tactic| first
  | exact HasTy.none
  | exact HasTy.bool _
  | exact HasTy.int _
  | exact HasTy.str _
  | exact HasTy.tup _
  | ((with_reducible refine' HasTy.list ?k0); (case k0 => walk_at "mlst"))
  | ((with_reducible refine' HasTy.sd ?k0); (case k0 => walk_at "mst"))
  | ((with_reducible refine' HasTy.id ?k0); (case k0 => walk_at "mst")))
local macro_rules | `(tactic| walk_at "mhasty") => `(tactic| first
  | exact HasTy.none
  | exact HasTy.bool _
  | exact HasTy.int _
  | exact HasTy.str _
  | exact HasTy.tup _
  | ((with_reducible refine' HasTy.list ?k0); (case k0 => walk_at "mlst"))
  | ((with_reducible refine' HasTy.sd ?k0); (case k0 => walk_at "mst"))
  | ((with_reducible refine' HasTy.id ?k0); (case k0 => walk_at "mst")))
local macro_rules | `(tactic| walk_at "masg") => `(tactic| first
  | ((with_reducible refine' Asg.nloc ?k0 ?k1 ?_ ?k3); (case k0 => decide +kernel); (case k1 => walk_at "mput"); (case k3 => kernel_rfl))
  | ((with_reducible refine' Asg.ncel ?k0 ?k1 ?_ ?k3); (case k0 => decide +kernel); (case k1 => walk_at "mput"); (case k3 => kernel_rfl))
  | ((with_reducible refine' Asg.sub ?_)))
local macro_rules | `(tactic| walk_at "mobj") => `(tactic| first
  | walk_at "mname")
local macro_rules | `(tactic| walk_at "mpop") => `(tactic| first
  | (((with_reducible refine' Ev.bmeth F.plainAttrs_list F.slot_list_pop F.type_list_pop ?_ ?k1 ?k2 ?k3 ?k4); (case k1 => kernel_rfl); (case k2 => kernel_rfl); (case k3 => kernel_rfl); (case k4 => kernel_rfl)); walk_at "mobj"; walk_at "mty")
  | (((with_reducible refine' Ev.bmeth F.plainAttrs_dict F.slot_dict_pop F.type_dict_pop ?_ ?k1 ?k2 ?k3 ?k4); (case k1 => kernel_rfl); (case k2 => kernel_rfl); (case k3 => kernel_rfl); (case k4 => kernel_rfl)); walk_at "mobj"; walk_at "mty"))
local macro_rules | `(tactic| walk_at "mmeth") => `(tactic| first
  | walk_at "mpop"
  | ((with_reducible refine' Ev.bmeth F.plainAttrs_list F.slot_list_append F.type_list_append ?_ ?k1 ?k2 ?k3 ?k4); (case k1 => kernel_rfl); (case k2 => kernel_rfl); (case k3 => kernel_rfl); (case k4 => kernel_rfl))
  | ((with_reducible refine' Ev.bmeth F.plainAttrs_list F.slot_list_remove F.type_list_remove ?_ ?k1 ?k2 ?k3 ?k4); (case k1 => kernel_rfl); (case k2 => kernel_rfl); (case k3 => kernel_rfl); (case k4 => kernel_rfl))
  | ((with_reducible refine' Ev.bmeth F.plainAttrs_list F.slot_list_clear F.type_list_clear ?_ ?k1 ?k2 ?k3 ?k4); (case k1 => kernel_rfl); (case k2 => kernel_rfl); (case k3 => kernel_rfl); (case k4 => kernel_rfl))
  | ((with_reducible refine' Ev.bmeth F.plainAttrs_list F.slot_list_reverse F.type_list_reverse ?_ ?k1 ?k2 ?k3 ?k4); (case k1 => kernel_rfl); (case k2 => kernel_rfl); (case k3 => kernel_rfl); (case k4 => kernel_rfl))
  | ((with_reducible refine' Ev.bmeth F.plainAttrs_str F.slot_str_join F.type_str_join ?_ ?k1 ?k2 ?k3 ?k4); (case k1 => kernel_rfl); (case k2 => kernel_rfl); (case k3 => kernel_rfl); (case k4 => kernel_rfl))
  | ((with_reducible refine' Ev.bmeth F.plainAttrs_list F.slot_list_insert F.type_list_insert ?_ ?k1 ?k2 ?k3 ?k4); (case k1 => kernel_rfl); (case k2 => kernel_rfl); (case k3 => kernel_rfl); (case k4 => kernel_rfl))
  | ((with_reducible refine' Ev.bmeth F.plainAttrs_list F.slot_list_index F.type_list_index ?_ ?k1 ?k2 ?k3 ?k4); (case k1 => kernel_rfl); (case k2 => kernel_rfl); (case k3 => kernel_rfl); (case k4 => kernel_rfl))
  | ((with_reducible refine' Ev.bmeth F.plainAttrs_list F.slot_list_count F.type_list_count ?_ ?k1 ?k2 ?k3 ?k4); (case k1 => kernel_rfl); (case k2 => kernel_rfl); (case k3 => kernel_rfl); (case k4 => kernel_rfl))
  | ((with_reducible refine' Ev.bmeth F.plainAttrs_str F.slot_str_upper F.type_str_upper ?_ ?k1 ?k2 ?k3 ?k4); (case k1 => kernel_rfl); (case k2 => kernel_rfl); (case k3 => kernel_rfl); (case k4 => kernel_rfl)))
local macro_rules | `(tactic| walk_at "mcall") => `(tactic| first
  | ((with_reducible refine' Ev.callR ?_ ?k1 ?k2); (case k1 => kernel_rfl); (case k2 => kernel_rfl); walk_at "mname"; refine' ⟨_, rfl, ?k3, ?_⟩; (case k3 => walk_at "mK"))
  | ((with_reducible refine' Ev.callB ?_ ?k1 ?k2); (case k1 => kernel_rfl); (case k2 => kernel_rfl); walk_at "mname"; first | refine' ⟨_, .inl ⟨rfl, ?_⟩⟩ | refine' ⟨_, .inr ⟨rfl, ?_⟩⟩))
local macro_rules | `(tactic| walk_at "mev") => `(tactic| first
  | walk_at "mname"
  | ((with_reducible refine' Ev.cint ?_))
  | ((with_reducible refine' Ev.cstr ?_))
  | ((with_reducible refine' Ev.cbool ?_))
  | ((with_reducible refine' Ev.cnone ?_))
  | ((with_reducible refine' Ev.bin ?_))
  | ((with_reducible refine' Ev.cmp ?_ ?k1); (case k1 => kernel_rfl))
  | ((with_reducible refine' Ev.slice ?_))
  | ((with_reducible refine' Ev.sub ?_))
  | ((with_reducible refine' Ev.tuple ?_))
  | walk_at "mmeth"
  | walk_at "mcall"
  | ((with_reducible refine' Ev.boolop ?_))
  | ((with_reducible refine' Ev.list ?_))
  | walk_at "mcomp"
  | walk_at "mdict")
local macro_rules | `(tactic| walk_at "mex") => `(tactic| first
  | ((with_reducible refine' Ex.ret ?_))
  | ((with_reducible refine' Ex.ite ?_))
  | ((with_reducible refine' Ex.expr ?_ ?k1 ?k2); (case k1 => kernel_rfl); (case k2 => kernel_rfl))
  | walk_at "mcompA"
  | ((with_reducible refine' Ex.assign ?_ ?k1 ?k2 ?k3); (case k1 => kernel_rfl); (case k2 => kernel_rfl); (case k3 => kernel_rfl))
  | ((with_reducible refine' Ex.for ?_ ?k1); (case k1 => intro _; kernel_rfl)))
local macro_rules | `(tactic| walk_at "m") => `(tactic| first
  | ((with_reducible refine' is.ev ?_); first | walk_at "mev")
  | ((with_reducible refine' is.exs ?_); first | ((with_reducible refine' Exs.cons ?_)) | ((with_reducible refine' Exs.nil ?_)))
  | ((with_reducible refine' is.thn ?_); first | ((with_reducible refine' Then.next ?_)) | ((with_reducible refine' Then.ret ?_)))
  | ((with_reducible refine' is.ags ?_); first | ((with_reducible refine' Ags.cons ?_ ?k1); (case k1 => kernel_rfl)) | ((with_reducible refine' Ags.nil ?_)))
  | ((with_reducible refine' is.cmp ?_); first | ((with_reducible refine' CmpWP.eq_int ?_)) | ((with_reducible refine' CmpWP.lt_int ?_)) | ((with_reducible refine' CmpWP.gt_int ?_)) | ((with_reducible refine' CmpWP.ge_int ?_)) | ((with_reducible refine' CmpWP.eq_str ?_)) | ((with_reducible refine' CmpWP.ne_str ?_)) | ((with_reducible refine' CmpWP.isNotNone ?_)))
  | ((with_reducible refine' is.tst ?_); first | ((with_reducible refine' Tst.cmp ?_ ?k1); (case k1 => kernel_rfl)) | ((with_reducible refine' Tst.not ?_)) | ((with_reducible refine' Tst.boolop ?_)) | ((with_reducible refine' Tst.val ?_ ?k1); (case k1 => kernel_rfl)))
  | ((with_reducible refine' is.ex ?_); first | walk_at "mex")
  | ((with_reducible refine' is.asg ?_); first | walk_at "masg")
  | ((with_reducible refine' is.bin ?_); first | ((with_reducible refine' BinWP.add_int ?_)) | ((with_reducible refine' BinWP.sub_int ?_)) | ((with_reducible refine' BinWP.mul_int ?_ ?k1); (case k1 => first | exact intMul_l (by decide) (by decide) | exact intMul_r (by decide) (by decide) | exact intMul_l (by omega) (by omega) | exact intMul_r (by omega) (by omega))) | ((with_reducible refine' BinWP.fmod_int ?k0 ?_); (case k0 => decide)) | ((with_reducible refine' BinWP.fdiv_int ?k0 ?k1 ?_); (case k0 => decide); (case k1 => decide)))
  | ((with_reducible refine' is.tru ?_); first | ((with_reducible refine' TruWP.bool ?_)))
  | ((with_reducible refine' is.item ?_); first | ((with_reducible refine' ItemWP.tup0 ?_)) | ((with_reducible refine' ItemWP.tup1 ?_)) | ((with_reducible refine' ItemWP.tup2 ?_)) | ((with_reducible refine' ItemWP.sd ?k0 ?k1 ?_); (case k0 => walk_at "mst"); (case k1 => walk_at "msget")))
  | ((with_reducible refine' is.call ?_); first | ((with_reducible refine' isi_t ?k0 ?k1 ?k2 ?_); (case k0 => walk_at "mhasty"); (case k1 => decide); (case k2 => rfl)) | ((with_reducible refine' BltWP.len_list ?k0 ?k1 ?_); (case k0 => walk_at "mlst"); (case k1 => walk_at "mom")) | ((with_reducible refine' CallWP.listOf ?k0 ?k1 ?_); (case k0 => walk_at "mlst"); (case k1 => walk_at "mom")) | ((with_reducible refine' CallWP.range1 ?_)))
  | ((with_reducible refine' is.lp ?_); first | ((with_reducible refine' LpQ.n ?_)) | ((with_reducible refine' LpQ.r ?_)))
  | ((with_reducible refine' Br.t ?k0 ?_); (case k0 => rfl))
  | ((with_reducible refine' Br.f ?k0 ?_); (case k0 => rfl))
  | ((with_reducible refine' Br.t ?k0 ?_); (case k0 => decide +kernel))
  | ((with_reducible refine' Br.f ?k0 ?_); (case k0 => decide +kernel))
  | ((with_reducible refine' Br.t ?k0 ?_); (case k0 => (simp; done)))
  | ((with_reducible refine' Br.f ?k0 ?_); (case k0 => (simp; done)))
  | walk_at "mty"
  | ((with_reducible refine' Szs.mk ?k0 ?_); (case k0 => walk_at "msz"))
  | ((with_reducible refine' AllT.and_cons ?_))
  | ((with_reducible refine' AllT.or_cons ?_))
  | ((with_reducible refine' AllT.and_nil ?_))
  | ((with_reducible refine' AllT.or_nil ?_))
  | ((with_reducible refine' BoolE.one ?_))
  | ((with_reducible refine' BoolE.and ?_))
  | ((with_reducible refine' Ifs.nil ?_))
  | ((with_reducible refine' Ifs.one ?_))
  | ((with_reducible refine' Prt.none ?_))
  | ((with_reducible refine' Prt.some ?_))
  | ((with_reducible refine' Src.of ?_)))
local macro_rules | `(tactic| walk_at "mdef0") => `(tactic| (refine' CallWP.def0  ?k1 ?k2 ?k3 ?k4 ?k5 ?k6 ?k7 ?k8 ?k9 ?k10 ?_; (case k1 => walk_at "mK"); (case k2 => walk_at "mK"); (case k3 => assumption); (case k4 => with_unfolding_all rfl); (case k5 => decide +kernel); (case k6 => decide +kernel); (case k7 => decide +kernel); (case k8 => rfl); (case k9 => rfl); (case k10 => rfl)))
local macro_rules | `(tactic| walk_at "mdef1") => `(tactic| (refine' CallWP.def1 _ ?k1 ?k2 ?k3 ?k4 ?k5 ?k6 ?k7 ?k8 ?k9 ?k10 ?_; (case k1 => walk_at "mK"); (case k2 => walk_at "mK"); (case k3 => assumption); (case k4 => intro _; with_unfolding_all rfl); (case k5 => decide +kernel); (case k6 => decide +kernel); (case k7 => decide +kernel); (case k8 => rfl); (case k9 => rfl); (case k10 => rfl)))
local macro_rules | `(tactic| walk_at "mdef2") => `(tactic| (refine' CallWP.def2 _ _ ?k1 ?k2 ?k3 ?k4 ?k5 ?k6 ?k7 ?k8 ?k9 ?k10 ?_; (case k1 => walk_at "mK"); (case k2 => walk_at "mK"); (case k3 => assumption); (case k4 => intro _ _; with_unfolding_all rfl); (case k5 => decide +kernel); (case k6 => decide +kernel); (case k7 => decide +kernel); (case k8 => rfl); (case k9 => rfl); (case k10 => rfl)))
local macro_rules | `(tactic| walk_at "mdef3") => `(tactic| (refine' CallWP.def3 _ _ _ ?k1 ?k2 ?k3 ?k4 ?k5 ?k6 ?k7 ?k8 ?k9 ?k10 ?_; (case k1 => walk_at "mK"); (case k2 => walk_at "mK"); (case k3 => assumption); (case k4 => intro _ _ _; with_unfolding_all rfl); (case k5 => decide +kernel); (case k6 => decide +kernel); (case k7 => decide +kernel); (case k8 => rfl); (case k9 => rfl); (case k10 => rfl)))
local macro_rules | `(tactic| walk_at "mdef4") => `(tactic| (refine' CallWP.def4 _ _ _ _ ?k1 ?k2 ?k3 ?k4 ?k5 ?k6 ?k7 ?k8 ?k9 ?k10 ?_; (case k1 => walk_at "mK"); (case k2 => walk_at "mK"); (case k3 => assumption); (case k4 => intro _ _ _ _; with_unfolding_all rfl); (case k5 => decide +kernel); (case k6 => decide +kernel); (case k7 => decide +kernel); (case k8 => rfl); (case k9 => rfl); (case k10 => rfl)))
local macro_rules | `(tactic| walk_at "mdef5") => `(tactic| (refine' CallWP.def5 _ _ _ _ _ ?k1 ?k2 ?k3 ?k4 ?k5 ?k6 ?k7 ?k8 ?k9 ?k10 ?_; (case k1 => walk_at "mK"); (case k2 => walk_at "mK"); (case k3 => assumption); (case k4 => intro _ _ _ _ _; with_unfolding_all rfl); (case k5 => decide +kernel); (case k6 => decide +kernel); (case k7 => decide +kernel); (case k8 => rfl); (case k9 => rfl); (case k10 => rfl)))
local macro_rules | `(tactic| walk_at "mdef6") => `(tactic| (refine' CallWP.def6 _ _ _ _ _ _ ?k1 ?k2 ?k3 ?k4 ?k5 ?k6 ?k7 ?k8 ?k9 ?k10 ?_; (case k1 => walk_at "mK"); (case k2 => walk_at "mK"); (case k3 => assumption); (case k4 => intro _ _ _ _ _ _; with_unfolding_all rfl); (case k5 => decide +kernel); (case k6 => decide +kernel); (case k7 => decide +kernel); (case k8 => rfl); (case k9 => rfl); (case k10 => rfl)))
local macro_rules | `(tactic| walk_at "mdef7") => `(tactic| (refine' CallWP.def7 _ _ _ _ _ _ _ ?k1 ?k2 ?k3 ?k4 ?k5 ?k6 ?k7 ?k8 ?k9 ?k10 ?_; (case k1 => walk_at "mK"); (case k2 => walk_at "mK"); (case k3 => assumption); (case k4 => intro _ _ _ _ _ _ _; with_unfolding_all rfl); (case k5 => decide +kernel); (case k6 => decide +kernel); (case k7 => decide +kernel); (case k8 => rfl); (case k9 => rfl); (case k10 => rfl)))
local macro_rules | `(tactic| walk_at "mdefC1") => `(tactic| (refine' CodC.def1 _ ?k1 ?k2 ?k3 ?k4 ?k5 ?k6 ?k7 ?k8 ?k9 ?k10 ?_; (case k1 => walk_at "mK"); (case k2 => walk_at "mK"); (case k3 => assumption); (case k4 => intro _; with_unfolding_all rfl); (case k5 => decide +kernel); (case k6 => decide +kernel); (case k7 => decide +kernel); (case k8 => rfl); (case k9 => rfl); (case k10 => rfl)))
local macro_rules | `(tactic| walk_at "mdefC3") => `(tactic| (refine' CodC.def3 _ _ _ ?k1 ?k2 ?k3 ?k4 ?k5 ?k6 ?k7 ?k8 ?k9 ?k10 ?_; (case k1 => walk_at "mK"); (case k2 => walk_at "mK"); (case k3 => assumption); (case k4 => intro _ _ _; with_unfolding_all rfl); (case k5 => decide +kernel); (case k6 => decide +kernel); (case k7 => decide +kernel); (case k8 => rfl); (case k9 => rfl); (case k10 => rfl)))
structure Hd where
  name : Str
  rank : Int
  hears : Str
  once : Bool
  deeds : V
def hv (h : Hd) : V := .tup [.str h.name, .int h.rank, .str h.hears, .bool h.once, h.deeds]
def hdOf (hs : List Hd) (n : Str) : Option Hd := hs.find? fun h => h.name == n
def rk (hs : List Hd) (n : Str) : Int := ((hdOf hs n).map (·.rank)).getD 0
def hrs (hs : List Hd) (n : Str) : Str := ((hdOf hs n).map (·.hears)).getD Str.empty
def foundF (hs : List Hd) (ns : List Str) (w : Str) : List Str := ns.filter fun n => (hrs hs n == Str.ofString "") || (hrs hs n == w)
def Heard (hs : List Hd) (ns : List Str) (w : Str) (out : List Str) : Prop := ∃ p : List Nat, p.Perm (List.range (foundF hs ns w).length) ∧ p.Pairwise (slt fun i j => decide (rk hs ((foundF hs ns w).getD i Str.empty) < rk hs ((foundF hs ns w).getD j Str.empty))) ∧ out = p.map fun i => (foundF hs ns w).getD i Str.empty
theorem hdOf_mem : ∀ {hs : List Hd} {h : Hd}, (hs.map (·.name)).Nodup → h ∈ hs → hdOf hs h.name = some h
  | k :: hs, h, nd, hm => by
    simp only [List.map_cons, List.nodup_cons] at nd
    unfold hdOf
    rcases List.mem_cons.mp hm with rfl | hm
    · simp
    · have : (k.name == h.name) = false := by
        rw [beq_eq_false_iff_ne]; exact fun e => nd.1 (by rw [e]; exact List.mem_map_of_mem hm)
      rw [List.find?_cons, this]
      exact hdOf_mem nd.2 hm
theorem hd_sget : ∀ {hs : List Hd} {n : Str}, n ∈ hs.map (·.name) → ∃ h, h ∈ hs ∧ h.name = n ∧ hdOf hs n = some h ∧ sget (hs.map fun h => (h.name, hv h)) n = some (hv h)
  | k :: hs, n, hm => by
    by_cases q : k.name = n
    · exact ⟨k, .head _, q, by simp [hdOf, q], by simp [sget, q]⟩
    · rw [List.map_cons] at hm
      rcases List.mem_cons.mp hm with e | hm
      · exact absurd e.symm q
      · obtain ⟨h, h1, h2, h3, h4⟩ := hd_sget hm
        have q' : (k.name == n) = false := beq_eq_false_iff_ne.mpr q
        refine ⟨h, .tail _ h1, h2, by unfold hdOf; rw [List.find?_cons, q']; exact h3, ?_⟩
        unfold sget at h4 ⊢
        simp only [List.map_cons, List.find?_cons, q, decide_false]
        exact h4
theorem sput_new : ∀ {hs : List Hd} {h : Hd}, h.name ∉ hs.map (·.name) → sput (hs.map fun h => (h.name, hv h)) h.name (hv h) = (hs ++ [h]).map fun h => (h.name, hv h)
  | [], h, _ => rfl
  | k :: hs, h, hn => by
    simp only [List.map_cons, List.mem_cons, not_or] at hn
    simp only [List.map_cons, List.cons_append, sput, hn.1, if_false]
    exact congrArg _ (sput_new hn.2)
theorem beq_swap (a b : Str) : (a == b) = (b == a) := by
  rw [Bool.eq_iff_iff]; simp only [beq_iff_eq]; exact ⟨Eq.symm, Eq.symm⟩
theorem CmpWP.inT2 {x a b : Str} {Q : V → Store → Prop} (hu : A.units < 9000) (hx : PyData.strOk x = true) (ha : PyData.strOk a = true) (hb : PyData.strOk b = true) (h : Q (.bool ((a == x) || (b == x))) σ) : CmpWP C A .In (.str x) (.tup [.str a, .str b]) σ Q X := by
  refine CmpWP.inT (d := .str x) (ds := [.str a, .str b]) (.str _) (.cons (.str _) (.cons (.str _) .nil)) (by simpa [PyData.canLay0] using hx) (by simp [PyData.canLayAll0, PyData.canLay0, ha, hb]) (by simp only [PyData.depthAll, PyData.depth, cLine]; omega) ?_
  have e : ([PyData.str a, PyData.str b].any fun y => PyData.eqv y (.str x)) = ((a == x) || (b == x)) := by simp [PyData.eqv]
  rw [e]; exact h
theorem c_hearers (hK : C.K = hd.heap_39 C.w.params) (hB : BMod C) (Cd : CodeHd C.h₀ 18 16) {hl nl : Addr} {hs : List Hd} {ns : List Str} {w : Str} {Q : V → Store → Prop} (hr : A.depth + 1 < recursionLimit) (hh : A.handled = none) (hu : A.units < 8000)
    (hP : σ 16 = some (.tab ⟨7, 29, 7, 58⟩ (Str.ofString "hearers" ++ Str.ofString ".<locals>." ++ Str.ofString "<lambda>"))) (h1 : σ hl = some (.list (hs.map hv))) (h2 : σ nl = some (.list (ns.map V.str))) (nd : (hs.map (·.name)).Nodup) (hsub : ∀ n ∈ ns, n ∈ hs.map (·.name)) (hz : hs.length ≤ 60) (hz2 : ns.length < 64)
    (hok : ∀ h ∈ hs, PyData.strOk h.hears = true) (hw : PyData.strOk w = true)
    (h : ∀ (a : Addr) (σ' : Store) (out : List Str), Grow σ σ' → σ a = none → Heard hs ns w out → σ' a = some (.list (out.map V.str)) → Q (.ref a) σ') : CallWP C A (.ref 19) [.ref hl, .ref nl, .str w] σ Q X := by
  have hr0 : A.depth < recursionLimit := by omega
  walk_at "mdef3"
  intro L A' a1 a2 a3
  have hh' : A'.handled = none := a1.trans hh
  have hr' : A'.depth < recursionLimit := by rw [a2]; exact hr
  have hu' : A'.units < 9000 := by rw [a3]; omega
  repeat walk_at "m"
  refine Ev.dict0 fun d hd => ?_
  repeat walk_at "m"
  refine ⟨_, _, ItV.list hh' (.inl (Store.at_fresh hd h1)), ?_⟩
  refine ForL.inv hv (fun rest ρ σ1 => ∃ done, done ++ rest = hs ∧ Grow σ σ1 ∧ σ1 d = some (.sd (done.map fun h => (h.name, hv h))) ∧ ρ.get "by_name" = some (.ref d) ∧ ρ.get "names" = some (.ref nl) ∧ ρ.get "word" = some (.str w)) ?_ ?_ _ _ _ ⟨[], rfl, Grow.rfl'.upd hd, Store.hit, by walk_at "mget", by walk_at "mget", by walk_at "mget"⟩
  · rintro x rest ρ σ1 ⟨done, e, g, gd, r1, r2, r3⟩
    have hnew : x.name ∉ done.map (·.name) := by
      rw [← e, List.map_append, List.nodup_append] at nd
      exact fun hm => nd.2.2 _ hm _ (by simp) rfl
    have hlen : done.length ≤ 60 := by rw [← e] at hz; simp at hz; omega
    simp only [hv]
    repeat walk_at "m"
    refine SetWP.sd gd (by simp only [List.length_map, sizeLine_eq]; omega) ?_
    have e2 := sput_new hnew
    simp only [hv] at e2 ⊢
    rw [e2]
    repeat walk_at "m"
    refine ⟨.inl ?_, done ++ [x], by rw [← e]; simp, g.upd hd, Store.hit, by walk_at "mget", by walk_at "mget", by walk_at "mget"⟩
    exact (g.upd hd) _ _ h1
  rintro ρ σ1 ⟨done, e, g, gd, r1, r2, r3⟩
  rw [List.append_nil] at e
  subst e
  have h2' := g _ _ h2
  repeat walk_at "m"
  refine ⟨_, _, ItV.list hh' (.inl h2'), fun L' => ?_⟩
  have look : ∀ n ∈ ns, ∃ x, x ∈ done ∧ hdOf done n = some x ∧ sget (done.map fun h => (h.name, hv h)) n = some (.tup [.str x.name, .int x.rank, .str x.hears, .bool x.once, x.deeds]) := fun n hn => by
    obtain ⟨x, x1, x2, x3, x4⟩ := hd_sget (hsub n hn)
    exact ⟨x, x1, x3, x4⟩
  refine CmpL.pure (fun y => match y with | .str n => (hrs done n == Str.ofString "") || (hrs done n == w) | _ => false) id (.inl h2') _ _ ?_ ?_ (by simp [sizeLine_eq]; omega) ?_
  · intro y hy Q hQ
    obtain ⟨n, hn, rfl⟩ := List.mem_map.mp hy
    obtain ⟨x, x1, x3, x4⟩ := look n hn
    repeat walk_at "m"
    refine CmpWP.inT2 hu' (hok x x1) (strOk_ofString _) hw ?_
    repeat walk_at "m"
    have e3 : hrs done n = x.hears := by unfold hrs; rw [x3]; rfl
    have e4 : ((Str.ofString "" == x.hears) || (w == x.hears)) = ((hrs done n == Str.ofString "") || (hrs done n == w)) := by
      rw [e3, beq_swap (Str.ofString "") x.hears, beq_swap w x.hears]
    rw [e4]; exact hQ
  · intro y hy _ Q hQ
    repeat walk_at "m"
    exact hQ
  intro fa hfa
  have ef : ([] : List V) ++ List.map id (List.filter (fun y => match y with | .str n => (hrs done n == Str.ofString "") || (hrs done n == w) | _ => false) (ns.map V.str)) = (foundF done ns w).map V.str := by
    rw [List.nil_append, List.map_id, List.filter_map]; rfl
  rw [ef]
  repeat walk_at "m"
  refine Ev.sortLam Cd hB hr' (by decide +kernel) (by walk_at "mK") (by walk_at "mcapt") rfl (fun _ _ _ _ _ => rfl) rfl rfl rfl (by decide +kernel) (by decide +kernel) (by kernel_rfl) (by kernel_rfl) (by kernel_rfl) ?_
  repeat walk_at "m"
  have hfl : (foundF done ns w).length ≤ ns.length := List.length_filter_le ..
  refine ⟨fa, _, (fun v => match v with | .str n => rk done n | _ => 0), rfl, .inl Store.hit, by simp; omega, Store.at_fresh hfa (g _ _ hP), ?_, ?_⟩
  · intro x hx L2 f2 cdv A2 b1 b2
    have hh2 : A2.handled = none := b1.trans hh'
    obtain ⟨n, hn, rfl⟩ := List.mem_map.mp hx
    obtain ⟨x, x1, x3, x4⟩ := look n (List.mem_filter.mp hn).1
    repeat walk_at "m"
    exact ⟨rfl, by simp [rk, x3]⟩
  · intro a p ha hp hs
    obtain ⟨q1, ha0⟩ := Store.none_ne ha
    have e5 : ∀ i, ((foundF done ns w).map V.str).getD i V.none = if i < (foundF done ns w).length then V.str ((foundF done ns w).getD i Str.empty) else V.none := fun i => by
      split
      · rename_i hi; simp [hi]
      · rename_i hi; simp [Nat.le_of_not_lt hi]
    have hb : ∀ i ∈ p, i < (foundF done ns w).length := fun i hi => by simpa using hp.mem_iff.mp hi
    refine h a _ (p.map fun i => (foundF done ns w).getD i Str.empty) ((g.upd (g.none hfa)).upd (g.none ha0)) (g.none ha0) ⟨p, by simpa using hp, ?_, rfl⟩ ?_
    · refine hs.imp_of_mem fun {i j} hi hj z => ?_
      unfold slt at z ⊢
      dsimp only at z ⊢
      rw [e5, e5, if_pos (hb i hi), if_pos (hb j hj)] at z
      exact z
    · rw [Store.hit, List.map_map]
      congr 2
      refine List.map_congr_left fun i hi => ?_
      rw [e5, if_pos (hb i hi)]; rfl

theorem CmpL.invIf {env : Env} {ρ : Rho} {α : Type} {x : Str} {ifs : List Expr} {elt : Expr} {ok : Store → Prop} {R : List V → Store → Prop} (enc : α → V) (I : List α → List V → Store → Prop)
    (step : ∀ y ys out σ, I (y :: ys) out σ → Ifs C A env ifs (ρ.put x (enc y)) σ (fun b σ1 => if b then Ev C A env elt (ρ.put x (enc y)) σ1 (fun z σ2 => out.length ≤ sizeLine ∧ ok σ2 ∧ I ys (out ++ [z]) σ2) (fun _ _ => False) else ok σ1 ∧ I ys out σ1) (fun _ _ => False))
    (done : ∀ out σ, I [] out σ → R out σ) : ∀ ys out σ, I ys out σ → CmpL C A env x ifs elt ok ρ R (ys.map enc) out σ
  | [], out, σ, h => done out σ h
  | y :: ys, out, σ, h => by
    unfold CmpL
    have mono : ∀ {P P' : Bool → Store → Prop}, Ifs C A env ifs (ρ.put x (enc y)) σ P (fun _ _ => False) → (∀ b σ, P b σ → P' b σ) → Ifs C A env ifs (ρ.put x (enc y)) σ P' (fun _ _ => False) := by
      intro P P' h k
      match ifs, h with
      | [], h => exact k _ _ h
      | [c], h => exact Tst.mono h k
    refine mono (step y ys out σ h) fun b σ1 h1 => ?_
    cases b with
    | true => simp only [if_true] at h1 ⊢; exact h1.mono' fun z σ2 h2 => ⟨h2.1, h2.2.1, CmpL.invIf enc I step done ys _ σ2 h2.2.2⟩
    | false => simp only [Bool.false_eq_true, if_false] at h1 ⊢; exact ⟨h1.1, CmpL.invIf enc I step done ys _ σ1 h1.2⟩
theorem c_told (hK : C.K = hd.heap_39 C.w.params) {l : Addr} {cs : List Int} {i : Nat} {Q : V → Store → Prop} (hr : A.depth < recursionLimit) (hh : A.handled = none) (hl : LstAt C σ l (cs.map V.int)) (hz : cs.length ≤ 1000) (hi : i ≤ 1000) (h : Q (.int (cs.getD i 0)) σ) : CallWP C A (.ref 26) [.ref l, .int i] σ Q X := by
  walk_at "mdef2"
  intro L A' a1 a2 a3
  have hh' : A'.handled = none := a1.trans hh
  repeat walk_at "m"
  by_cases q : i < cs.length
  · refine Br.f (by simp; omega) ?_
    repeat walk_at "m"
    refine ItemWP.list (y := .int (cs.getD i 0)) hl (by omega) (by omega) (by simp [q]) ?_
    repeat walk_at "m"
    exact h
  · refine Br.t (by simp; omega) ?_
    repeat walk_at "m"
    have e : cs.getD i 0 = 0 := by simp [Nat.le_of_not_lt q]
    rw [e] at h; exact h
theorem c_mixed (hK : C.K = hd.heap_39 C.w.params) {c k m : Int} {Q : V → Store → Prop} (hr : A.depth < recursionLimit) (hh : A.handled = none) (hm : 0 < m) (h : ∀ (r : Int) (σ' : Store), Grow σ σ' → 0 ≤ r → r < m → Q (.int r) σ') : CallWP C A (.ref 33) [.int c, .int k, .int m] σ Q X := by
  walk_at "mdef3"
  intro L A' a1 a2 a3
  have hh' : A'.handled = none := a1.trans hh
  repeat walk_at "m"
  intro a ha
  repeat walk_at "m"
  have b0 : 0 ≤ k.fmod 7 := Int.fmod_nonneg_of_pos _ (by omega)
  have b1 : k.fmod 7 < 7 := Int.fmod_lt_of_pos _ (by omega)
  have pr : ∀ j : Nat, j < 7 → ∃ p : Int, ([V.int 10007, V.int 20011, V.int 30011, V.int 40009, V.int 50021, V.int 60013, V.int 70001] : List V)[j]? = some (.int p) ∧ p ≠ 0 := by
    intro j hj
    match j, hj with
    | 0, _ => exact ⟨_, rfl, by decide⟩
    | 1, _ => exact ⟨_, rfl, by decide⟩
    | 2, _ => exact ⟨_, rfl, by decide⟩
    | 3, _ => exact ⟨_, rfl, by decide⟩
    | 4, _ => exact ⟨_, rfl, by decide⟩
    | 5, _ => exact ⟨_, rfl, by decide⟩
    | 6, _ => exact ⟨_, rfl, by decide⟩
  obtain ⟨p, hp, hp0⟩ := pr (k.fmod 7).toNat (by omega)
  refine ItemWP.list (y := .int p) (.inl Store.hit) b0 (by omega) hp ?_
  refine BinWP.fmod_int hp0 ?_
  repeat walk_at "m"
  refine BinWP.fmod_int (by omega) ?_
  repeat walk_at "m"
  exact h _ _ (Grow.rfl'.fresh ha) (Int.fmod_nonneg_of_pos _ hm) (Int.fmod_lt_of_pos _ hm)
def letS (j : Nat) : Str := ⟨#[97 + j]⟩
theorem let26 : ∀ j, j < 26 → (Str.ofString "abcdefghijklmnopqrstuvwxyz").cps[j]? = some (97 + j) := by decide +kernel
theorem len26 : (Str.ofString "abcdefghijklmnopqrstuvwxyz").length = 26 := by decide +kernel
theorem ItemWP.letter {i : Int} {Q : V → Store → Prop} (h0 : 0 ≤ i) (h1 : i < 26) (h : Q (.str (letS i.toNat)) σ) : ItemWP C A (.str (Str.ofString "abcdefghijklmnopqrstuvwxyz")) (.int i) σ Q X := by
  refine ItemWP.str (by omega) (by omega) ?_ h
  rw [len26, seqIndex_of h0 (by omega)]
  exact let26 _ (by omega)
def tailS (b : Int) : Str := Txt.join Str.empty ((List.range ((b.fdiv 26).fmod 11).toNat).map fun (i : Nat) => letS ((b + 3 * (0 + (i : Int))).fmod 26).toNat)
def atN (b : Int) : Nat := ((b.fdiv 286).fmod ((tailS b).length + 1)).toNat
def nameF (b : Int) (k : Nat) : Str := Txt.slice (tailS b) none (some ((atN b : Nat) : Int)) ++ (letS (((k : Int) + b).fmod 26).toNat ++ letS (k / 26)) ++ Txt.slice (tailS b) (some ((atN b : Nat) : Int)) none
theorem letS_len (j : Nat) : (letS j).length = 1 := rfl
theorem tailS_len (b : Int) : (tailS b).length ≤ 10 := by
  have h1 : (b.fdiv 26).fmod 11 < 11 := Int.fmod_lt_of_pos _ (by omega)
  have := join_len (ts := (List.range ((b.fdiv 26).fmod 11).toNat).map fun (i : Nat) => letS ((b + 3 * (0 + (i : Int))).fmod 26).toNat) (B := 1) (fun y hy => by
    obtain ⟨i, _, rfl⟩ := List.mem_map.mp hy
    exact Nat.le_refl 1)
  simp only [List.length_map, List.length_range] at this
  unfold tailS
  omega
theorem atN_le (b : Int) : atN b ≤ (tailS b).length := by
  unfold atN
  have h0 : 0 ≤ (b.fdiv 286).fmod ((tailS b).length + 1) := Int.fmod_nonneg_of_pos _ (by omega)
  have h1 : (b.fdiv 286).fmod ((tailS b).length + 1) < (tailS b).length + 1 := Int.fmod_lt_of_pos _ (by omega)
  omega
theorem nameF_cps (b : Int) (k : Nat) : (nameF b k).cps.toList = (tailS b).cps.toList.take (atN b) ++ [97 + (((k : Int) + b).fmod 26).toNat, 97 + k / 26] ++ (tailS b).cps.toList.drop (atN b) := by
  unfold nameF
  rw [cps_append, cps_append, slice_upto _ _ (atN_le b), slice_from _ _ (atN_le b), cps_append]
  rfl
theorem nameF_inj {b : Int} {j k : Nat} (h : nameF b j = nameF b k) : j = k := by
  have e := congrArg (fun x : Str => x.cps.toList) h
  simp only [nameF_cps] at e
  have e2 := List.append_cancel_right e
  have e3 := List.append_cancel_left e2
  simp only [List.cons.injEq, and_true] at e3
  obtain ⟨e4, e5⟩ := e3
  have c0 : 0 ≤ ((j : Int) + b).fmod 26 := Int.fmod_nonneg_of_pos _ (by omega)
  have c1 : 0 ≤ ((k : Int) + b).fmod 26 := Int.fmod_nonneg_of_pos _ (by omega)
  have e6 : ((j : Int) + b).fmod 26 = ((k : Int) + b).fmod 26 := by omega
  rw [Int.fmod_eq_emod_of_nonneg _ (by omega), Int.fmod_eq_emod_of_nonneg _ (by omega)] at e6
  omega
theorem strOk_let (j : Nat) (h : j < 1000) : PyData.strOk (letS j) = true := strOk_one (by omega)
theorem tailS_ok (b : Int) : PyData.strOk (tailS b) = true := by
  refine strOk_join fun t ht => ?_
  obtain ⟨i, _, rfl⟩ := List.mem_map.mp ht
  have c1 : (b + 3 * (0 + (i : Int))).fmod 26 < 26 := Int.fmod_lt_of_pos _ (by omega)
  exact strOk_let _ (by omega)
theorem nameF_ok (b : Int) (k : Nat) (hk : k < 676) : PyData.strOk (nameF b k) = true := by
  rw [strOk_iff, nameF_cps]
  have ht := strOk_iff.mp (tailS_ok b)
  have c1 : ((k : Int) + b).fmod 26 < 26 := Int.fmod_lt_of_pos _ (by omega)
  intro c hc
  simp only [List.mem_append, List.mem_cons, List.not_mem_nil, or_false] at hc
  rcases hc with (h | h | h) | h
  · exact ht c (List.mem_of_mem_take h)
  · omega
  · omega
  · exact ht c (List.mem_of_mem_drop h)
theorem nameF_len (b : Int) (k : Nat) : (nameF b k).length ≤ 12 := by
  have e : (nameF b k).length = (nameF b k).cps.toList.length := by simp [Str.length]
  have h1 := tailS_len b
  have h2 : (tailS b).cps.toList.length = (tailS b).length := by simp [Str.length]
  rw [e, nameF_cps]
  simp only [List.length_append, List.length_take, List.length_drop, List.length_cons, List.length_nil]
  omega
theorem str_len_append (x y : Str) : (x ++ y).length = x.length + y.length := by
  show (x.cps ++ y.cps).size = _
  simp [Str.length]
theorem c_name (hK : C.K = hd.heap_39 C.w.params) {b : Int} {k : Nat} {Q : V → Store → Prop} (hr : A.depth < recursionLimit) (hh : A.handled = none) (hk : k < 676) (h : ∀ σ', Grow σ σ' → Q (.str (nameF b k)) σ') : CallWP C A (.ref 38) [.int b, .int k] σ Q X := by
  walk_at "mdef2"
  intro L A' a1 a2 a3
  have hh' : A'.handled = none := a1.trans hh
  have b0 : 0 ≤ (b.fdiv 26).fmod 11 := Int.fmod_nonneg_of_pos _ (by omega)
  have b1 : (b.fdiv 26).fmod 11 < 11 := Int.fmod_lt_of_pos _ (by omega)
  repeat walk_at "m"
  refine ⟨_, _, ItV.rng hh' (by omega) (by omega) (by omega) (by omega), fun L' => ?_⟩
  refine CmpL.pure (fun _ => true) (fun y => match y with | .int i => .str (letS ((b + 3 * i).fmod 26).toNat) | _ => .none) trivial _ _ ?_ ?_ (by simp [irange, sizeLine_eq]; omega) ?_
  · intro y hy Q hQ
    repeat walk_at "m"
    exact hQ
  · intro y hy _ Q hQ
    obtain ⟨i, hi, rfl⟩ := List.mem_map.mp hy
    repeat walk_at "m"
    exact ItemWP.letter (Int.fmod_nonneg_of_pos _ (by omega)) (Int.fmod_lt_of_pos _ (by omega)) hQ
  intro a ha
  have e1 : ([] : List V) ++ List.map (fun y => match y with | V.int i => .str (letS ((b + 3 * i).fmod 26).toNat) | _ => .none) (List.filter (fun _ => true) (irange 0 ((b.fdiv 26).fmod 11))) = ((List.range ((b.fdiv 26).fmod 11).toNat).map fun (i : Nat) => letS ((b + 3 * (0 + (i : Int))).fmod 26).toNat).map V.str := by
    rw [List.nil_append, List.filter_eq_self.mpr (fun _ _ => rfl), irange, List.map_map, List.map_map, Int.sub_zero]
    rfl
  rw [e1]
  have hB1 : ∀ y ∈ (List.range ((b.fdiv 26).fmod 11).toNat).map fun (i : Nat) => letS ((b + 3 * (0 + (i : Int))).fmod 26).toNat, y.length ≤ 1 := fun y hy => by
    obtain ⟨i, _, rfl⟩ := List.mem_map.mp hy
    exact Nat.le_refl 1
  repeat walk_at "m"
  refine CallWP.join (.inl Store.hit) (joinOk_of (B := 1) hB1 (by simp; omega)) ?_
  have ht : Txt.join (Str.ofString "") ((List.range ((b.fdiv 26).fmod 11).toNat).map fun (i : Nat) => letS ((b + 3 * (0 + (i : Int))).fmod 26).toNat) = tailS b := rfl
  rw [ht]
  have tl := tailS_len b
  have al := atN_le b
  have a0 : 0 ≤ (b.fdiv 286).fmod ((tailS b).length + 1) := Int.fmod_nonneg_of_pos _ (by omega)
  have ea : (b.fdiv 286).fmod ((tailS b).length + 1) = ((atN b : Nat) : Int) := by unfold atN; omega
  have c0 : 0 ≤ ((k : Int) + b).fmod 26 := Int.fmod_nonneg_of_pos _ (by omega)
  have c1 : ((k : Int) + b).fmod 26 < 26 := Int.fmod_lt_of_pos _ (by omega)
  have d0 : (k : Int).fdiv 26 = ((k / 26 : Nat) : Int) := by rw [Int.fdiv_eq_ediv_of_nonneg _ (by omega)]; omega
  repeat walk_at "m"
  refine CallWP.len_str (by omega) ?_
  repeat walk_at "m"
  refine BinWP.fmod_int (by omega) ?_
  rw [ea]
  repeat walk_at "m"
  refine ItemWP.letter c0 c1 ?_
  repeat walk_at "m"
  rw [d0]
  refine ItemWP.letter (by omega) (by omega) ?_
  refine BinWP.add_str ?_ (by simp [letS_len, sizeLine_eq])
  repeat walk_at "m"
  refine ⟨_, rfl, ?_⟩
  refine SliceWP.str (by rw [sizeLine_eq]; omega) ?_
  repeat walk_at "m"
  have l1 := Txt.slice_le (tailS b) none (some ((atN b : Nat) : Int))
  have l2 := Txt.slice_le (tailS b) (some ((atN b : Nat) : Int)) none
  refine BinWP.add_str ?_ (by rw [str_len_append, letS_len, letS_len, sizeLine_eq]; omega)
  repeat walk_at "m"
  refine ⟨_, rfl, ?_⟩
  repeat walk_at "m"
  refine SliceWP.str (by rw [sizeLine_eq]; omega) ?_
  refine BinWP.add_str ?_ (by rw [str_len_append, str_len_append, letS_len, letS_len, sizeLine_eq]; omega)
  repeat walk_at "m"
  have e5 : (((k / 26 : Nat) : Int)).toNat = k / 26 := by omega
  rw [e5]
  exact h _ (Grow.rfl'.fresh ha)

theorem c_handler (hK : C.K = hd.heap_39 C.w.params) {c b : Int} {k : Nat} {Q : V → Store → Prop} (hr : A.depth + 1 < recursionLimit) (hh : A.handled = none) (hk : k < 676)
    (h : ∀ (x : Hd) (dl : Addr) (σ' : Store), Grow σ σ' → σ dl = none → σ' dl = some (.list [.tup [.str (Str.ofString "hush")]]) → x.name = nameF b k → x.deeds = .ref dl → PyData.strOk x.hears = true → Q (hv x) σ') : CallWP C A (.ref 45) [.int c, .int b, .int k] σ Q X := by
  have hr0 : A.depth < recursionLimit := by omega
  walk_at "mdef3"
  intro L A' a1 a2 a3
  have hh' : A'.handled = none := a1.trans hh
  have hr' : A'.depth < recursionLimit := by rw [a2]; exact hr
  repeat walk_at "m"
  refine c_mixed hK hr' hh' (by decide) fun r1 σ1 g1 r10 r11 => ?_
  repeat walk_at "m"
  refine c_mixed hK hr' hh' (by decide) fun r2 σ2 g2 r20 r21 => ?_
  repeat walk_at "m"
  refine Br.both ?_ ?_ <;> (repeat walk_at "m") <;> (
    intro hl hhl
    repeat walk_at "m"
    refine c_mixed hK hr' hh' (by decide) fun r3 σ3 g3 r30 r31 => ?_
    have hl3 := g3 _ _ (Store.hit (σ := σ2) (a := hl) (o := .list [.str (Str.ofString ""), .str (Str.ofString "bell"), .str (Str.ofString "bull"), .str (Str.ofString "bellbellbell")]))
    have pick : ∀ j : Nat, j < 4 → ∃ p : Str, ([V.str (Str.ofString ""), V.str (Str.ofString "bell"), V.str (Str.ofString "bull"), V.str (Str.ofString "bellbellbell")] : List V)[j]? = some (.str p) ∧ PyData.strOk p = true := by
      intro j hj
      match j, hj with
      | 0, _ => exact ⟨_, rfl, strOk_ofString _⟩
      | 1, _ => exact ⟨_, rfl, strOk_ofString _⟩
      | 2, _ => exact ⟨_, rfl, strOk_ofString _⟩
      | 3, _ => exact ⟨_, rfl, strOk_ofString _⟩
    obtain ⟨p, hp, hpok⟩ := pick r3.toNat (by omega)
    refine ItemWP.list (y := .str p) (.inl hl3) r30 (by omega) hp ?_
    repeat walk_at "m"
    refine c_name hK hr' hh' hk fun σ4 g4 => ?_
    repeat walk_at "m"
    refine c_mixed hK hr' hh' (by decide) fun r5 σ5 g5 r50 r51 => ?_
    repeat walk_at "m"
    intro dl hdl
    have G : Grow σ σ5 := (g1.trans g2).trans (((Grow.rfl'.fresh hhl).trans g3).trans (g4.trans g5))
    repeat walk_at "m"
    exact h ⟨nameF b k, _, p, _, .ref dl⟩ dl _ (G.fresh hdl) (G.none hdl) Store.hit rfl rfl hpok)
theorem c_place (hK : C.K = hd.heap_39 C.w.params) {nl : Addr} {ns : List Str} {n : Str} {Q : V → Store → Prop} (hr : A.depth < recursionLimit) (hh : A.handled = none) (hl : σ nl = some (.list (ns.map V.str))) (hz : ns.length ≤ 1000) (hn : n ∈ ns) (h : Q (.int (ns.idxOf n : Nat)) σ) : CallWP C A (.ref 52) [.str n, .ref nl] σ Q X := by
  have hi := List.idxOf_lt_length_iff.mpr hn
  walk_at "mdef2"
  intro L A' a1 a2 a3
  have hh' : A'.handled = none := a1.trans hh
  repeat walk_at "m"
  refine ⟨_, _, ItV.rng hh' (by omega) (by omega) (by simp <;> omega) (by simp <;> omega), ?_⟩
  have e : irange 0 ((ns.map V.str).length : Int) = (List.range' 0 ns.length).map fun (i : Nat) => V.int (i : Int) := by
    unfold irange
    rw [List.range_eq_range']
    simp
  rw [e]
  refine ForL.inv (fun (i : Nat) => V.int (i : Int)) (fun rest ρ σ1 => σ1 = σ ∧ (∃ i, rest = List.range' i (ns.length - i) ∧ i ≤ ns.idxOf n) ∧ ρ.get "_law_names" = some (.ref nl) ∧ ρ.get "_law_name" = some (.str n)) ?_ ?_ _ _ _ ⟨rfl, ⟨0, by simp, Nat.zero_le _⟩, by walk_at "mget", by walk_at "mget"⟩
  · rintro x xs ρ σ1 ⟨rfl, ⟨i, er, hii⟩, r1, r2⟩
    have hlt : i < ns.length := by omega
    rw [show ns.length - i = (ns.length - (i + 1)) + 1 by omega, List.range'_succ] at er
    obtain ⟨rfl, rfl⟩ := List.cons.inj er
    repeat walk_at "m"
    refine ItemWP.list (y := .str ns[x]) (.inl hl) (by omega) (by omega) (by simp [hlt]) ?_
    repeat walk_at "m"
    by_cases q : x = ns.idxOf n
    · have e1 : ns[x] = n := by
        have := List.getElem_idxOf hi
        simp only [← q] at this
        exact this
      refine Br.t (by simp [e1]) ?_
      repeat walk_at "m"
      rw [← q] at h
      exact h
    · have e1 : ns[x] ≠ n := fun z => by
        have := List.not_of_lt_findIdx (p := (· == n)) (xs := ns) (i := x) (by
          have : ns.idxOf n = ns.findIdx (· == n) := rfl
          omega)
        simp [z] at this
      refine Br.f (by simpa using e1) ?_
      repeat walk_at "m"
      exact ⟨trivial, rfl, ⟨x + 1, rfl, by omega⟩, by walk_at "mget", by walk_at "mget"⟩
  · rintro ρ σ1 ⟨rfl, ⟨i, er, hii⟩, -⟩
    have : (List.range' i (ns.length - i)).length = 0 := by rw [← er]; rfl
    simp at this
    omega
theorem sub_ord : ∀ {l m : List Str} (hs : l.Sublist m) (nd : m.Nodup) (i j : Nat) (hij : i < j) (hj : j < l.length), m.idxOf (l[i]'(Nat.lt_trans hij hj)) < m.idxOf l[j]
  | _, _, .slnil, _, i, j, _, hj => by simp at hj
  | l, a :: m, .cons _ hs, nd, i, j, hij, hj => by
    have nd' := List.nodup_cons.mp nd
    have ih := sub_ord hs nd'.2 i j hij hj
    have h1 : (l[i]'(Nat.lt_trans hij hj)) ∈ m := hs.subset (List.getElem_mem _)
    have h2 : l[j] ∈ m := hs.subset (List.getElem_mem _)
    have n1 : (a == l[i]'(Nat.lt_trans hij hj)) = false := beq_eq_false_iff_ne.mpr fun e => nd'.1 (e ▸ h1)
    have n2 : (a == l[j]) = false := beq_eq_false_iff_ne.mpr fun e => nd'.1 (e ▸ h2)
    rw [List.idxOf_cons, List.idxOf_cons, n1, n2]
    simp only [cond_false]
    omega
  | a :: l, _ :: m, .cons₂ _ hs, nd, i, j, hij, hj => by
    have nd' := List.nodup_cons.mp nd
    match i, j, hij, hj with
    | 0, j + 1, _, hj =>
      have h2 : l[j]'(by simpa using hj) ∈ m := hs.subset (List.getElem_mem _)
      have n2 : (a == l[j]'(by simpa using hj)) = false := beq_eq_false_iff_ne.mpr fun e => nd'.1 (e ▸ h2)
      rw [List.getElem_cons_zero, List.getElem_cons_succ, List.idxOf_cons, List.idxOf_cons, n2]
      simp
    | i + 1, j + 1, hij, hj =>
      have hj' : j < l.length := by simpa using hj
      have hij' : i < j := by omega
      have ih := sub_ord hs nd'.2 i j hij' hj'
      have h1 : (l[i]'(Nat.lt_trans hij' hj')) ∈ m := hs.subset (List.getElem_mem _)
      have h2 : l[j] ∈ m := hs.subset (List.getElem_mem _)
      have n1 : (a == l[i]'(Nat.lt_trans hij' hj')) = false := beq_eq_false_iff_ne.mpr fun e => nd'.1 (e ▸ h1)
      have n2 : (a == l[j]) = false := beq_eq_false_iff_ne.mpr fun e => nd'.1 (e ▸ h2)
      rw [List.getElem_cons_succ, List.getElem_cons_succ, List.idxOf_cons, List.idxOf_cons, n1, n2]
      simp only [cond_false]
      omega
theorem heard_rel {hs : List Hd} {ns out : List Str} {w : Str} (H : Heard hs ns w out) (nd : ns.Nodup) : out.Perm (foundF hs ns w) ∧ out.Pairwise fun a b => lexlt (rk hs a, (ns.idxOf a : Nat)) (rk hs b, (ns.idxOf b : Nat)) = true := by
  obtain ⟨p, hp, hs', rfl⟩ := H
  have hsub : (foundF hs ns w).Sublist ns := List.filter_sublist
  constructor
  · have := hp.map fun i => (foundF hs ns w).getD i Str.empty
    have e : (List.range (foundF hs ns w).length).map (fun i => (foundF hs ns w).getD i Str.empty) = foundF hs ns w := by
      refine List.ext_getElem (by simp) fun i h1 h2 => ?_
      simp at h1; simp [h1]
    rw [e] at this; exact this
  · rw [List.pairwise_map]
    refine hs'.imp_of_mem fun {i j} hi hj z => ?_
    have bi : i < (foundF hs ns w).length := by simpa using hp.mem_iff.mp hi
    have bj : j < (foundF hs ns w).length := by simpa using hp.mem_iff.mp hj
    rw [lexlt_iff]
    rcases z with z | ⟨z1, z2⟩
    · left; simpa using z
    · have z1' : ¬ rk hs ((foundF hs ns w).getD j Str.empty) < rk hs ((foundF hs ns w).getD i Str.empty) := by simpa using z1
      have hord : ns.idxOf ((foundF hs ns w).getD i Str.empty) < ns.idxOf ((foundF hs ns w).getD j Str.empty) := by
        have ei : (foundF hs ns w).getD i Str.empty = (foundF hs ns w)[i] := by simp [bi]
        have ej : (foundF hs ns w).getD j Str.empty = (foundF hs ns w)[j] := by simp [bj]
        rw [ei, ej]
        exact sub_ord hsub nd i j z2 bj
      by_cases q : rk hs ((foundF hs ns w).getD i Str.empty) = rk hs ((foundF hs ns w).getD j Str.empty)
      · right; exact ⟨q, by simp only; omega⟩
      · left; simp only; omega

theorem c_good (hK : C.K = hd.heap_39 C.w.params) {fl hl nl : Addr} {hs : List Hd} {ns out : List Str} {w : Str} {Q : V → Store → Prop} (hr : A.depth + 1 < recursionLimit) (hh : A.handled = none) (hu : A.units < 8000) (h0 : σ fl = some (.list (out.map V.str))) (h1 : σ hl = some (.list (hs.map hv))) (h2 : σ nl = some (.list (ns.map V.str)))
    (nd : (hs.map (·.name)).Nodup) (ndn : ns.Nodup) (hsub : ∀ n ∈ ns, n ∈ hs.map (·.name)) (hz : hs.length ≤ 60) (hz2 : ns.length < 64) (hz3 : out.length ≤ 1000)
    (hperm : out.Perm (foundF hs ns w)) (hrel : out.Pairwise fun a b => lexlt (rk hs a, (ns.idxOf a : Nat)) (rk hs b, (ns.idxOf b : Nat)) = true)
    (h : ∀ σ', Grow σ σ' → Q (.bool true) σ') : CallWP C A (.ref 57) [.ref fl, .ref hl, .ref nl, .str w] σ Q X := by
  have hr0 : A.depth < recursionLimit := by omega
  have hmem : ∀ n ∈ out, n ∈ ns ∧ ((hrs hs n == Str.ofString "") || (hrs hs n == w)) = true := fun n hn => List.mem_filter.mp (hperm.mem_iff.mp hn)
  walk_at "mdef4"
  intro L A' a1 a2 a3
  have hh' : A'.handled = none := a1.trans hh
  have hr' : A'.depth < recursionLimit := by rw [a2]; exact hr
  have hu' : A'.units < 9000 := by rw [a3]; omega
  repeat walk_at "m"
  refine ⟨_, _, ItV.list hh' (.inl h0), ?_⟩
  refine ForL.inv V.str (fun rest ρ σ1 => Grow σ σ1 ∧ (∀ n ∈ rest, n ∈ out) ∧ (rest.Pairwise fun a b => lexlt (rk hs a, (ns.idxOf a : Nat)) (rk hs b, (ns.idxOf b : Nat)) = true) ∧
    (ρ.get "_law_last" = some .none ∨ ∃ q : Int × Int, ρ.get "_law_last" = some (.tup [.int q.1, .int q.2]) ∧ ∀ n ∈ rest, lexlt q (rk hs n, (ns.idxOf n : Nat)) = true) ∧
    ρ.get "_law_handlers" = some (.ref hl) ∧ ρ.get "_law_names" = some (.ref nl) ∧ ρ.get "_law_word" = some (.str w)) ?_ ?_ _ _ _ ⟨Grow.rfl', fun n hn => hn, hrel, .inl (by walk_at "mget"), by walk_at "mget", by walk_at "mget", by walk_at "mget"⟩
  · rintro n rest ρ σ1 ⟨g, hin, hrl, hlast, r1, r2, r3⟩
    obtain ⟨hn1, hn2⟩ := hmem n (hin n (.head _))
    obtain ⟨x, x1, x2, x3, x4⟩ := hd_sget (hsub n hn1)
    have h1' := g _ _ h1
    have h2' := g _ _ h2
    have hrl' := List.pairwise_cons.mp hrl
    repeat walk_at "m"
    refine c_place hK hr' hh' h2' (by omega) hn1 ?_
    repeat walk_at "m"
    try (refine Br.f (by simp) ?_; repeat walk_at "m")
    refine ⟨_, _, ItV.list hh' (.inl h1'), fun L' => ?_⟩
    refine CmpL.pure (fun _ => true) (fun y => match y with | .tup (a :: _) => a | _ => .none) (.inl h1') _ _ ?_ ?_ (by simp [sizeLine_eq]; omega) ?_
    · intro y hy Q hQ
      repeat walk_at "m"
      exact hQ
    · intro y hy _ Q hQ
      obtain ⟨z, hz, rfl⟩ := List.mem_map.mp hy
      simp only [hv]
      repeat walk_at "m"
      exact hQ
    intro ol hol
    have eo : ([] : List V) ++ List.map (fun y => match y with | V.tup (a :: _) => a | _ => .none) (List.filter (fun _ => true) (hs.map hv)) = (hs.map (·.name)).map V.str := by
      rw [List.nil_append, List.filter_eq_self.mpr (fun _ _ => rfl), List.map_map, List.map_map]; rfl
    rw [eo]
    repeat walk_at "m"
    refine c_place hK hr' hh' Store.hit (by simp; omega) (hsub n hn1) ?_
    have hidx : (hs.map (·.name)).idxOf n < hs.length := by simpa using List.idxOf_lt_length_iff.mpr (hsub n hn1)
    have hx : hs[(hs.map (·.name)).idxOf n]? = some x := by
      have e1 : (hs.map (·.name))[(hs.map (·.name)).idxOf n]? = some n := by
        rw [List.getElem?_eq_getElem (by simpa using hidx), List.getElem_idxOf]
      obtain ⟨y, hy, ey⟩ : ∃ y, hs[(hs.map (·.name)).idxOf n]? = some y ∧ y.name = n := by
        rw [List.getElem?_map] at e1
        cases q : hs[(hs.map (·.name)).idxOf n]? with
        | none => rw [q] at e1; cases e1
        | some y => rw [q] at e1; exact ⟨y, rfl, by simpa using e1⟩
      have := hdOf_mem nd (List.mem_of_getElem? hy)
      rw [ey, x3] at this
      rw [hy, this]
    refine ItemWP.list (y := hv x) (.inl (Store.at_fresh hol h1')) (by omega) (by omega) (by simp [hx]) ?_
    simp only [hv]
    have er : rk hs n = x.rank := by unfold rk; rw [x3]; rfl
    have eh : hrs hs n = x.hears := by unfold hrs; rw [x3]; rfl
    rw [eh] at hn2
    have G : Grow σ (σ1.upd ol (.list ((hs.map (·.name)).map V.str))) := g.fresh hol
    walk_at "m"
    walk_at "m"
    refine Exs.cut (fun ρ' σ' => σ' = σ1.upd ol (.list ((hs.map (·.name)).map V.str)) ∧ (ρ'.get "_law_last" = some .none ∨ ∃ q : Int × Int, ρ'.get "_law_last" = some (.tup [.int q.1, .int q.2]) ∧ lexlt q (rk hs n, (ns.idxOf n : Nat)) = true) ∧ ρ'.get "_law_one" = some (.tup [.str x.name, .int x.rank, .str x.hears, .bool x.once, x.deeds]) ∧ ρ'.get "_law_place_here" = some (.int (ns.idxOf n : Nat)) ∧
      ρ'.get "_law_handlers" = some (.ref hl) ∧ ρ'.get "_law_names" = some (.ref nl) ∧ ρ'.get "_law_word" = some (.str w)) ?_ ?_
    · have P : (x.hears == Str.ofString "") = true ∨ ((x.hears == Str.ofString "") = false ∧ (x.hears == w) = true) := by
        cases q : x.hears == Str.ofString "" with
        | true => exact .inl rfl
        | false => rw [q] at hn2; exact .inr ⟨rfl, by simpa using hn2⟩
      repeat walk_at "m"
      rcases P with q | ⟨q, q2⟩
      · refine Br.f (by simp only [bne, q]; rfl) ?_
        repeat walk_at "m"
        refine ⟨rfl, rfl, ?_, by walk_at "mget", by walk_at "mget", by walk_at "mget", by walk_at "mget", by walk_at "mget"⟩
        rcases hlast with z | ⟨q, z, z2⟩
        · exact .inl (by walk_at "mget")
        · exact .inr ⟨q, by walk_at "mget", z2 n (.head _)⟩
      · refine Br.t (by simp only [bne, q]; rfl) ?_
        repeat walk_at "m"
        refine Br.f (by simp only [bne, q2]; rfl) ?_
        repeat walk_at "m"
        refine ⟨rfl, rfl, ?_, by walk_at "mget", by walk_at "mget", by walk_at "mget", by walk_at "mget", by walk_at "mget"⟩
        rcases hlast with z | ⟨q, z, z2⟩
        · exact .inl (by walk_at "mget")
        · exact .inr ⟨q, by walk_at "mget", z2 n (.head _)⟩
    · rintro ρ' σ' ⟨rfl, hl2, t1, t2, t3, t4, t5⟩
      refine Exs.cut (fun ρ'' σ'' => σ'' = σ1.upd ol (.list ((hs.map (·.name)).map V.str)) ∧ ρ''.get "_law_one" = some (.tup [.str x.name, .int x.rank, .str x.hears, .bool x.once, x.deeds]) ∧ ρ''.get "_law_place_here" = some (.int (ns.idxOf n : Nat)) ∧
        ρ''.get "_law_handlers" = some (.ref hl) ∧ ρ''.get "_law_names" = some (.ref nl) ∧ ρ''.get "_law_word" = some (.str w)) ?_ ?_
      · rcases hl2 with z | ⟨q, z, z2⟩
        · repeat walk_at "m"
          exact ⟨rfl, rfl, by walk_at "mget", by walk_at "mget", by walk_at "mget", by walk_at "mget", by walk_at "mget"⟩
        · repeat walk_at "m"
          refine CmpWP.lePair (by simp only [cLine]; omega) ?_
          rw [er] at z2
          rw [z2]
          repeat walk_at "m"
          exact ⟨rfl, rfl, by walk_at "mget", by walk_at "mget", by walk_at "mget", by walk_at "mget", by walk_at "mget"⟩
      · rintro ρ'' σ'' ⟨rfl, u1, u2, u3, u4, u5⟩
        repeat walk_at "m"
        refine ⟨.inl (G _ _ h0), G, fun m hm => hin m (.tail _ hm), hrl'.2, .inr ⟨(x.rank, (ns.idxOf n : Nat)), by walk_at "mget", fun m hm => ?_⟩, by walk_at "mget", by walk_at "mget", by walk_at "mget"⟩
        rw [← er]
        exact hrl'.1 m hm
  · rintro ρ σ1 ⟨g, -⟩
    repeat walk_at "m"
    exact h _ g

theorem CmpWP.inS {l : Addr} {xs : List Str} {x : Str} {Q : V → Store → Prop} (hl : LstAt C σ l (xs.map V.str)) (hu : A.units < 9000) (hx : PyData.strOk x = true) (hxs : ∀ y ∈ xs, PyData.strOk y = true) (h : Q (.bool (xs.contains x)) σ) : CmpWP C A .In (.str x) (.ref l) σ Q X := by
  refine CmpWP.inL (ds := xs.map PyData.str) hl (.str _) (DRs.map fun _ _ => .str _) (by simpa [PyData.canLay0] using hx) (canLayAll_map fun y hy => by simpa [PyData.canLay0] using hxs y hy) (by
    have := depthAll_map (k := 0) (g := PyData.str) (xs := xs) (fun _ _ => by simp [PyData.depth])
    simp only [PyData.depth, cLine]; omega) ?_
  have e : ((xs.map PyData.str).any fun y => PyData.eqv y (.str x)) = xs.contains x := by
    rw [Bool.eq_iff_iff]
    simp [PyData.eqv]
  rw [e]; exact h
/-- the law's handlers -/
structure HsOk (σ : Store) (b : Int) (hs : List Hd) : Prop where
  nm : hs.map (·.name) = (List.range hs.length).map (nameF b)
  dd : ∀ x ∈ hs, ∃ dl, x.deeds = .ref dl ∧ σ dl = some (.list [.tup [.str (Str.ofString "hush")]])
  ok : ∀ x ∈ hs, PyData.strOk x.hears = true
theorem HsOk.grow {σ σ' : Store} {b : Int} {hs : List Hd} (H : HsOk σ b hs) (g : Grow σ σ') : HsOk σ' b hs :=
  ⟨H.nm, fun x hx => by obtain ⟨dl, h1, h2⟩ := H.dd x hx; exact ⟨dl, h1, g _ _ h2⟩, H.ok⟩
theorem HsOk.nd {σ : Store} {b : Int} {hs : List Hd} (H : HsOk σ b hs) : (hs.map (·.name)).Nodup := by
  rw [H.nm]
  exact List.pairwise_map.mpr (List.nodup_range.imp fun {i j} h e => h (nameF_inj e))
theorem HsOk.name {σ : Store} {b : Int} {hs : List Hd} (H : HsOk σ b hs) (hz : hs.length ≤ 60) : ∀ n ∈ hs.map (·.name), PyData.strOk n = true ∧ n.length ≤ 12 := by
  intro n hn
  rw [H.nm] at hn
  obtain ⟨k, hk, rfl⟩ := List.mem_map.mp hn
  have := List.mem_range.mp hk
  exact ⟨nameF_ok b k (by omega), nameF_len b k⟩
def hdD (x : Hd) : PyData := .tuple [.str x.name, .int x.rank, .str x.hears, .bool x.once, .list [.tuple [.str (Str.ofString "hush")]]]
theorem HsOk.dr {σ : Store} {b : Int} {hs : List Hd} (H : HsOk σ b hs) : ∀ x ∈ hs, DR C σ (hv x) (hdD x) := fun x hx => by
  obtain ⟨dl, h1, h2⟩ := H.dd x hx
  unfold hv hdD
  rw [h1]
  exact .tup (.cons (.str _) (.cons (.int _) (.cons (.str _) (.cons (.bool _) (.cons (.list (.inl h2) (.cons (.tup (.cons (.str _) .nil)) .nil)) .nil)))))
theorem HsOk.lay {σ : Store} {b : Int} {hs : List Hd} (H : HsOk σ b hs) (hz : hs.length ≤ 60) : (PyData.list (hs.map hdD)).canLay0 = true ∧ (PyData.list (hs.map hdD)).depth ≤ 10 := by
  constructor
  · simp only [PyData.canLay0]
    refine canLayAll_map fun x hx => ?_
    have h1 := (H.name hz x.name (List.mem_map_of_mem hx)).1
    have h2 := H.ok x hx
    have h3 := strOk_ofString "hush"
    simp [hdD, PyData.canLay0, PyData.canLayAll0, h1, h2, h3]
  · have := depthAll_map (k := 6) (g := hdD) (xs := hs) (fun x _ => by simp [hdD, PyData.depth, PyData.depthAll])
    simp only [PyData.depth]; omega
theorem c_law (hK : C.K = hd.heap_39 C.w.params) (hN : SysOk C) (hB : BMod C) (Cd : CodeHd C.h₀ 18 16) {l : Addr} {cs : List Int} (hl : BaseL C l (cs.map V.int)) (hn : cs.length ≤ 63) :
    CallWP C callerA (.ref 62) [.ref l] (Store.upd (fun _ => none) 16 (.tab ⟨7, 29, 7, 58⟩ (Str.ofString "hearers" ++ Str.ofString ".<locals>." ++ Str.ofString "<lambda>"))) (fun v σ' => v = .bool true ∧ ∃ o, σ' 16 = some o ∧ ∃ pos' q', o = .tab pos' q') (fun _ _ => False) := by
  have hr0 : callerA.depth < recursionLimit := by decide
  have hT : (Store.upd (fun _ => none) 16 (.tab ⟨7, 29, 7, 58⟩ (Str.ofString "hearers" ++ Str.ofString ".<locals>." ++ Str.ofString "<lambda>"))) 16 = some (.tab ⟨7, 29, 7, 58⟩ (Str.ofString "hearers" ++ Str.ofString ".<locals>." ++ Str.ofString "<lambda>")) := Store.hit
  generalize Store.upd (fun _ => none) 16 (.tab ⟨7, 29, 7, 58⟩ (Str.ofString "hearers" ++ Str.ofString ".<locals>." ++ Str.ofString "<lambda>")) = σ at *
  walk_at "mdef1"
  intro L A' a1 a2 a3
  have hh' : A'.handled = none := a1
  have hr' : A'.depth + 1 < recursionLimit := by rw [a2]; decide
  have hr1 : A'.depth < recursionLimit := by omega
  have hu : A'.units < 8000 := by rw [a3]; decide
  have hcs : cs.length ≤ 1000 := by omega
  repeat walk_at "m"
  refine c_told (i := 0) hK hr1 hh' (.inr hl) hcs (by omega) ?_
  generalize cs.getD 0 0 = b
  walk_at "m"
  walk_at "m"
  refine Exs.cut (fun ρ' σ' => σ' = σ ∧ ∃ n : Int, ρ'.get "_law_count" = some (.int n) ∧ ρ'.get "_law_script" = some (.ref l) ∧ ρ'.get "_law_base" = some (.int b) ∧ (1 ≤ n ∧ n ≤ 8)) ?_ ?_
  · have b0 : 0 ≤ b.fmod 8 := Int.fmod_nonneg_of_pos _ (by omega)
    have b1 : b.fmod 8 < 8 := Int.fmod_lt_of_pos _ (by omega)
    repeat walk_at "m"
    exact ⟨rfl, rfl, _, by walk_at "mget", by walk_at "mget", by walk_at "mget", by omega, by omega⟩
  rintro ρ1 σ1 ⟨rfl, n0, p1, p2, p3, p4, p5⟩
  refine Exs.cut (fun ρ' σ' => σ' = σ1 ∧ ∃ n : Nat, ρ'.get "_law_count" = some (.int (n : Int)) ∧ ρ'.get "_law_script" = some (.ref l) ∧ ρ'.get "_law_base" = some (.int b) ∧ n ≤ 40) ?_ ?_
  · repeat walk_at "m"
    refine Br.both ?_ ?_
    · repeat walk_at "m"
      exact ⟨rfl, rfl, 40, by show _ = some (V.int 40); walk_at "mget", by walk_at "mget", by walk_at "mget", by omega⟩
    · repeat walk_at "m"
      refine ⟨rfl, rfl, n0.toNat, ?_, by walk_at "mget", by walk_at "mget", by omega⟩
      rw [Int.toNat_of_nonneg (by omega)]; exact p1
  clear p1 p2 p3
  rintro ρ1 σ2 ⟨rfl, n, p1, p2, p3, hn40⟩
  repeat walk_at "m"
  refine ⟨_, _, ItV.rng hh' (by omega) (by omega) (by omega) (by omega), fun L' => ?_⟩
  have er : irange 0 (n : Int) = (List.range' 0 n).map fun (i : Nat) => V.int (i : Int) := by
    unfold irange
    rw [List.range_eq_range']
    simp
  rw [er]
  refine CmpL.inv (fun (i : Nat) => V.int (i : Int)) (fun rest out σ3 => ∃ hs : List Hd, rest = List.range' hs.length (n - hs.length) ∧ hs.length ≤ n ∧ out = hs.map hv ∧ HsOk σ3 b hs ∧ Grow σ2 σ3) ?_ ?_ _ _ _ ⟨[], by simp, by simp, rfl, ⟨rfl, by simp, by simp⟩, Grow.rfl'⟩
  · rintro i is out σ3 ⟨hs, e, hlen, rfl, H, g⟩
    have hlt : hs.length < n := by
      cases z : n - hs.length with
      | zero => rw [z] at e; cases e
      | succ m => omega
    rw [show n - hs.length = (n - (hs.length + 1)) + 1 by omega, List.range'_succ] at e
    obtain ⟨rfl, rfl⟩ := List.cons.inj e
    repeat walk_at "m"
    have e3 : (3 : Int) + (hs.length : Int) = ((3 + hs.length : Nat) : Int) := by omega
    rw [e3]
    refine c_told hK hr1 hh' (.inr hl) hcs (by omega) ?_
    repeat walk_at "m"
    refine c_handler hK hr' hh' (by omega) fun x dl σ4 g4 hdl hdl4 xn xd xo => ?_
    refine ⟨by simp [sizeLine_eq]; omega, trivial, hs ++ [x], by simp, by simp; omega, by simp, ⟨?_, fun y hy => ?_, fun y hy => ?_⟩, g.trans g4⟩
    · rw [List.map_append, H.nm, List.length_append, List.length_singleton, List.range_succ, List.map_append]
      simp [xn]
    · rcases List.mem_append.mp hy with hy | hy
      · obtain ⟨d2, h1, h2⟩ := H.dd y hy
        exact ⟨d2, h1, g4 _ _ h2⟩
      · rw [List.mem_singleton.mp hy]; exact ⟨dl, xd, hdl4⟩
    · rcases List.mem_append.mp hy with hy | hy
      · exact H.ok y hy
      · rw [List.mem_singleton.mp hy]; exact xo
  rintro out σ3 ⟨hs, e, hlen, rfl, H, g3⟩ hla hhla
  have hz : hs.length ≤ 60 := by omega
  have H4 := H.grow (Grow.rfl'.fresh (o := .list (hs.map hv)) hhla)
  have g4 := g3.fresh (o := .list (hs.map hv)) hhla
  have hh4 : (σ3.upd hla (.list (hs.map hv))) hla = some (.list (hs.map hv)) := Store.hit
  generalize σ3.upd hla (.list (hs.map hv)) = σ4 at *
  clear H g3 hhla
  repeat walk_at "m"
  refine ⟨_, _, ItV.list hh' (.inl hh4), fun L' => ?_⟩
  refine CmpL.invIf hv (fun rest out σ5 => ∃ done ns, done ++ rest = hs ∧ out = List.map V.str ns ∧ ns.Sublist (done.map (·.name)) ∧ Grow σ4 σ5) ?_ ?_ _ _ _ ⟨[], [], rfl, rfl, List.Sublist.refl _, Grow.rfl'⟩
  · rintro x xs out σ5 ⟨done, ns, e, rfl, hs5, g5⟩
    have hxm : x ∈ hs := by rw [← e]; simp
    have hxl := (H4.name hz x.name (List.mem_map_of_mem hxm)).2
    have hnl : ns.length ≤ 60 := by
      have := hs5.length_le
      have h2 : done.length ≤ hs.length := by rw [← e]; simp
      simp at this; omega
    simp only [hv]
    repeat walk_at "m"
    refine c_told (i := 1) hK hr1 hh' (.inr hl) hcs (by omega) ?_
    repeat walk_at "m"
    refine CallWP.len_str (by omega) ?_
    repeat walk_at "m"
    refine CallWP.abs ?_
    repeat walk_at "m"
    refine c_mixed hK hr1 hh' (by decide) fun r σ6 g6 r0 r1 => ?_
    repeat walk_at "m"
    refine Br.both ?_ ?_
    · repeat walk_at "m"
      exact ⟨by simp [sizeLine_eq]; omega, .inl (g6 _ _ (g5 _ _ hh4)), done ++ [x], ns ++ [x.name], by rw [← e]; simp, by simp, by rw [List.map_append]; exact hs5.append (List.Sublist.refl _), g5.trans g6⟩
    · exact ⟨.inl (g6 _ _ (g5 _ _ hh4)), done ++ [x], ns, by rw [← e]; simp, rfl, by rw [List.map_append]; exact hs5.trans (List.sublist_append_left ..), g5.trans g6⟩
  rintro out σ5 ⟨done, ns, e, rfl, hsub, g5⟩ nla hnla
  rw [List.append_nil] at e
  subst e
  have hnd : ns.Nodup := H4.nd.sublist hsub
  have hnl : ns.length ≤ 60 := by have := hsub.length_le; simp at this; omega
  have hin : ∀ m ∈ ns, m ∈ done.map (·.name) := fun m hm => hsub.subset hm
  have g6 : Grow σ4 (σ5.upd nla (.list (ns.map V.str))) := g5.fresh hnla
  have hn6 : (σ5.upd nla (.list (ns.map V.str))) nla = some (.list (ns.map V.str)) := Store.hit
  have hne4 : σ4 nla = none := g5.none hnla
  generalize σ5.upd nla (.list (ns.map V.str)) = σ6 at *
  clear hsub g5 hnla
  walk_at "m"
  refine Exs.cut (fun ρ' σ' => ∃ ns' : List Str, ns'.Nodup ∧ ns'.length ≤ 60 ∧ (∀ m ∈ ns', m ∈ done.map (·.name)) ∧ σ' nla = some (.list (ns'.map V.str)) ∧ Grow σ4 σ' ∧ ρ'.get "_law_script" = some (.ref l) ∧ ρ'.get "_law_handlers" = some (.ref hla) ∧ ρ'.get "_law_names" = some (.ref nla)) ?_ ?_
  · repeat walk_at "m"
    refine c_told (i := 1) hK hr1 hh' (.inr hl) hcs (by omega) ?_
    repeat walk_at "m"
    refine Br.both ?_ ?_
    · repeat walk_at "m"
      refine CallWP.reverse hn6 (by simp [sizeLine_eq]; omega) ?_
      repeat walk_at "m"
      exact ⟨rfl, ns.reverse, List.pairwise_reverse.mpr (hnd.imp fun h => Ne.symm h), by simpa using hnl, fun m hm => hin m (by simpa using hm), by rw [Store.hit]; simp, g6.upd hne4, by walk_at "mget", by walk_at "mget", by walk_at "mget"⟩
    · repeat walk_at "m"
      exact ⟨rfl, ns, hnd, hnl, hin, hn6, g6, by walk_at "mget", by walk_at "mget", by walk_at "mget"⟩
  clear hn6 hnd hnl hin g6 p1 p2 p3
  rintro ρ2 σ7 ⟨ns', hnd, hnl, hin, hn7, g7, p1, p2, p3⟩
  have H7 := H4.grow g7
  have hh7 := g7 _ _ hh4
  have hT7 := g7 _ _ (g4 _ _ hT)
  repeat walk_at "m"
  intro wl hwl
  have hn8 := Store.at_fresh (o := .list [.str (Str.ofString "bell"), .str (Str.ofString "bull"), .str (Str.ofString "bellbellbell"), .str (Str.ofString "bel")]) hwl hn7
  have hh8 := Store.at_fresh (o := .list [.str (Str.ofString "bell"), .str (Str.ofString "bull"), .str (Str.ofString "bellbellbell"), .str (Str.ofString "bel")]) hwl hh7
  have hT8 := Store.at_fresh (o := .list [.str (Str.ofString "bell"), .str (Str.ofString "bull"), .str (Str.ofString "bellbellbell"), .str (Str.ofString "bel")]) hwl hT7
  have H8 := H7.grow (Grow.rfl'.fresh (o := .list [.str (Str.ofString "bell"), .str (Str.ofString "bull"), .str (Str.ofString "bellbellbell"), .str (Str.ofString "bel")]) hwl)
  have hwl8 : (σ7.upd wl (.list [.str (Str.ofString "bell"), .str (Str.ofString "bull"), .str (Str.ofString "bellbellbell"), .str (Str.ofString "bel")])) wl = some (.list [.str (Str.ofString "bell"), .str (Str.ofString "bull"), .str (Str.ofString "bellbellbell"), .str (Str.ofString "bel")]) := Store.hit
  generalize σ7.upd wl (.list [.str (Str.ofString "bell"), .str (Str.ofString "bull"), .str (Str.ofString "bellbellbell"), .str (Str.ofString "bel")]) = σ8 at *
  repeat walk_at "m"
  refine c_told (i := 2) hK hr1 hh' (.inr hl) hcs (by omega) ?_
  repeat walk_at "m"
  have pick : ∀ j : Nat, j < 4 → ∃ p : Str, ([V.str (Str.ofString "bell"), V.str (Str.ofString "bull"), V.str (Str.ofString "bellbellbell"), V.str (Str.ofString "bel")] : List V)[j]? = some (.str p) ∧ PyData.strOk p = true := by
    intro j hj
    match j, hj with
    | 0, _ => exact ⟨_, rfl, strOk_ofString _⟩
    | 1, _ => exact ⟨_, rfl, strOk_ofString _⟩
    | 2, _ => exact ⟨_, rfl, strOk_ofString _⟩
    | 3, _ => exact ⟨_, rfl, strOk_ofString _⟩
  have w0 : 0 ≤ (cs.getD 2 0).fmod 4 := Int.fmod_nonneg_of_pos _ (by omega)
  have w1 : (cs.getD 2 0).fmod 4 < 4 := Int.fmod_lt_of_pos _ (by omega)
  obtain ⟨w, hw, hwok⟩ := pick ((cs.getD 2 0).fmod 4).toNat (by omega)
  refine ItemWP.list (y := .str w) (.inl hwl8) w0 (by omega) hw ?_
  repeat walk_at "m"
  intro gv hgv
  have hn9 := Store.at_fresh (o := .list (done.map hv)) hgv hn8
  have hh9 := Store.at_fresh (o := .list (done.map hv)) hgv hh8
  have hT9 := Store.at_fresh (o := .list (done.map hv)) hgv hT8
  have H9 := H8.grow (Grow.rfl'.fresh (o := .list (done.map hv)) hgv)
  have hg9 : (σ8.upd gv (.list (done.map hv))) gv = some (.list (done.map hv)) := Store.hit
  generalize σ8.upd gv (.list (done.map hv)) = σ9 at *
  repeat walk_at "m"
  intro tl htl
  have hn10 := Store.at_fresh (o := .list (ns'.map V.str)) htl hn9
  have hh10 := Store.at_fresh (o := .list (ns'.map V.str)) htl hh9
  have hT10 := Store.at_fresh (o := .list (ns'.map V.str)) htl hT9
  have hg10 := Store.at_fresh (o := .list (ns'.map V.str)) htl hg9
  have H10 := H9.grow (Grow.rfl'.fresh (o := .list (ns'.map V.str)) htl)
  have ht10 : (σ9.upd tl (.list (ns'.map V.str))) tl = some (.list (ns'.map V.str)) := Store.hit
  generalize σ9.upd tl (.list (ns'.map V.str)) = σ10 at *
  repeat walk_at "m"
  refine c_hearers hK hB Cd hr' hh' hu hT10 hg10 ht10 H10.nd hin hz (by omega) H10.ok hwok fun fa σ11 out g11 hfa heard hf11 => ?_
  obtain ⟨hperm, hrel⟩ := heard_rel heard hnd
  have hfl : out.length ≤ 60 := by
    rw [hperm.length_eq]; exact Nat.le_trans (List.length_filter_le ..) hnl
  have hn11 := g11 _ _ hn10
  have hh11 := g11 _ _ hh10
  have hg11 := g11 _ _ hg10
  have ht11 := g11 _ _ ht10
  have hT11 := g11 _ _ hT10
  have H11 := H10.grow g11
  have hu9 : A'.units < 9000 := by omega
  have hnok : ∀ y ∈ ns', PyData.strOk y = true := fun y hy => (H11.name hz y (hin y hy)).1
  repeat walk_at "m"
  refine CmpWP.neSame (d := .list (done.map hdD)) (.list (.inl hg11) (DRs.map H11.dr)) (.list (.inl hh11) (DRs.map H11.dr)) (H11.lay hz).1 (by have := (H11.lay hz).2; simp only [cLine]; omega) ?_
  repeat walk_at "m"
  refine CmpWP.neSame (d := .list (ns'.map PyData.str)) (.list (.inl ht11) (DRs.map fun _ _ => .str _)) (.list (.inl hn11) (DRs.map fun _ _ => .str _)) (by simp only [PyData.canLay0]; exact canLayAll_map fun y hy => by simpa [PyData.canLay0] using hnok y hy) (by
    have := depthAll_map (k := 0) (g := PyData.str) (xs := ns') (fun _ _ => by simp [PyData.depth])
    simp only [PyData.depth, cLine]; omega) ?_
  repeat walk_at "m"
  refine ⟨_, _, ItV.list hh' (.inl hh11), fun L' => ?_⟩
  refine CmpL.pure (fun y => match y with | .tup (.str a :: _ :: .str c :: _) => ns'.contains a && ((c == Str.ofString "") || (c == w)) | _ => false) (fun y => match y with | .tup (a :: _) => a | _ => .none) (.inl hh11) _ _ ?_ ?_ (by simp [sizeLine_eq]; omega) ?_
  · intro y hy Q hQ
    obtain ⟨x, hx, rfl⟩ := List.mem_map.mp hy
    simp only [hv] at hQ ⊢
    repeat walk_at "m"
    refine CmpWP.inS (.inl hn11) hu9 (H11.name hz x.name (List.mem_map_of_mem hx)).1 hnok ?_
    repeat walk_at "m"
    cases q : ns'.contains x.name with
    | true =>
      refine Br.t rfl ?_
      repeat walk_at "m"
      refine CmpWP.inT2 hu9 (H11.ok x hx) (strOk_ofString _) hwok ?_
      repeat walk_at "m"
      rw [q, Bool.true_and] at hQ
      rw [beq_swap (Str.ofString "") x.hears, beq_swap w x.hears]
      cases z : ((x.hears == Str.ofString "") || (x.hears == w)) with
      | true =>
        refine Br.t rfl ?_
        repeat walk_at "m"
        rw [z] at hQ; exact hQ
      | false =>
        refine Br.f rfl ?_
        rw [z] at hQ; exact hQ
    | false =>
      refine Br.f rfl ?_
      rw [q, Bool.false_and] at hQ
      exact hQ
  · intro y hy _ Q hQ
    obtain ⟨x, hx, rfl⟩ := List.mem_map.mp hy
    simp only [hv]
    repeat walk_at "m"
    exact hQ
  intro ha hha
  have hlen2 : (([] : List V) ++ List.map (fun y => match y with | V.tup (a :: _) => a | _ => .none) (List.filter (fun y => match y with | V.tup (.str a :: _ :: .str c :: _) => ns'.contains a && ((c == Str.ofString "") || (c == w)) | _ => false) (done.map hv))).length = out.length := by
    rw [List.nil_append, List.length_map, List.filter_map, List.length_map, hperm.length_eq]
    have e1 : ((done.filter fun x => ns'.contains x.name && ((x.hears == Str.ofString "") || (x.hears == w))).map (·.name)).Perm (foundF done ns' w) := by
      refine (List.perm_ext_iff_of_nodup ?_ ?_).mpr fun m => ?_
      · exact H11.nd.sublist (List.filter_sublist.map _)
      · exact hnd.sublist List.filter_sublist
      · have key : ∀ x ∈ done, hrs done x.name = x.hears := fun x hx => by unfold hrs; rw [hdOf_mem H11.nd hx]; rfl
        constructor
        · intro hm
          obtain ⟨x, hx, rfl⟩ := List.mem_map.mp hm
          obtain ⟨hx1, hx2⟩ := List.mem_filter.mp hx
          rw [Bool.and_eq_true] at hx2
          refine List.mem_filter.mpr ⟨by simpa using hx2.1, ?_⟩
          rw [key x hx1]; exact hx2.2
        · intro hm
          obtain ⟨hm1, hm2⟩ := List.mem_filter.mp hm
          obtain ⟨x, hx, rfl⟩ := List.mem_map.mp (hin m hm1)
          refine List.mem_map.mpr ⟨x, List.mem_filter.mpr ⟨hx, ?_⟩, rfl⟩
          rw [key x hx] at hm2
          rw [Bool.and_eq_true]
          exact ⟨by simpa using hm1, hm2⟩
    have := e1.length_eq
    rw [List.length_map] at this
    exact this
  have hf12 := Store.at_fresh (o := .list (([] : List V) ++ List.map (fun y => match y with | V.tup (a :: _) => a | _ => .none) (List.filter (fun y => match y with | V.tup (.str a :: _ :: .str c :: _) => ns'.contains a && ((c == Str.ofString "") || (c == w)) | _ => false) (done.map hv)))) hha hf11
  have hn12 := Store.at_fresh (o := .list (([] : List V) ++ List.map (fun y => match y with | V.tup (a :: _) => a | _ => .none) (List.filter (fun y => match y with | V.tup (.str a :: _ :: .str c :: _) => ns'.contains a && ((c == Str.ofString "") || (c == w)) | _ => false) (done.map hv)))) hha hn11
  have hh12 := Store.at_fresh (o := .list (([] : List V) ++ List.map (fun y => match y with | V.tup (a :: _) => a | _ => .none) (List.filter (fun y => match y with | V.tup (.str a :: _ :: .str c :: _) => ns'.contains a && ((c == Str.ofString "") || (c == w)) | _ => false) (done.map hv)))) hha hh11
  have hT12 := Store.at_fresh (o := .list (([] : List V) ++ List.map (fun y => match y with | V.tup (a :: _) => a | _ => .none) (List.filter (fun y => match y with | V.tup (.str a :: _ :: .str c :: _) => ns'.contains a && ((c == Str.ofString "") || (c == w)) | _ => false) (done.map hv)))) hha hT11
  generalize (([] : List V) ++ List.map (fun y => match y with | V.tup (a :: _) => a | _ => .none) (List.filter (fun y => match y with | V.tup (.str a :: _ :: .str c :: _) => ns'.contains a && ((c == Str.ofString "") || (c == w)) | _ => false) (done.map hv))) = hearing at *
  have hha12 : (σ11.upd ha (.list hearing)) ha = some (.list hearing) := Store.hit
  generalize σ11.upd ha (.list hearing) = σ12 at *
  repeat walk_at "m"
  refine Br.t (by simp [hlen2]) ?_
  repeat walk_at "m"
  exact c_good hK hr' hh' hu hf12 hh12 hn12 H11.nd hnd hin hz (by omega) (by omega) hperm hrel fun σ' g => ⟨rfl, _, g _ _ hT12, _, _, rfl⟩

end Mine
theorem PySem.Challenge.cw_uf030038_02_holds : PySem.Challenge.rw_uf030038_02.Holds := by
  refine hd ?_
  intro w s₀ s₁ mg mb G Y fa o pm cd doc dV kV ho hd hcd hD hmg hg args vals as hpre hlay hrd hwl hlo
  have KX := km_in_of Y
  have hP := km_tabs_of Y 16 (by simp)
  have hC : CodeHd s₁.heap 18 16 := codeHd_of_K KX (by kernel_rfl)
  refine Ground.open G ?_
  intro T B D TE TW
  clear ho hd hcd hD
  wrow_args hpre hlay hrd hwl hlo
  rename IntsAre _ _ => hI
  rename s₁.heap.IsList _ _ => hL
  rename ¬ _ < _ => hn
  have hfa : fa = 62 := by
    have e := mg_of (n := Str.ofString "law") (v := .ref 62) KX T.g (by k_is)
    rw [hmg] at e
    cases e; rfl
  subst hfa
  refine wpAny_mono (Mine.glueT (pos := ⟨7, 29, 7, 58⟩) (q := Str.ofString "hearers" ++ Str.ofString ".<locals>." ++ Str.ofString "<lambda>") KX T hC hP (by kernel_rfl) (by decide) hg hL hI ?_) ?_ fun _ _ z => z.elim
  · intro C e1 e2 e3 e4 e5 e6 e7
    subst e2
    exact Mine.c_law e3 e4 e7 e6 e5 (by omega)
  · rintro v s' ⟨rfl, k1, k2, k3⟩
    exact ⟨.inl ⟨_, .bool true, [], rfl, fun _ => rfl, .bool true, postW_of (X := true == true) (by rfl) (w_eq_bool (w_res rfl) w_lit) rfl, fun _ => ⟨List.nodup_nil, fun a ha => by cases ha⟩⟩, k1, k2, k3⟩

