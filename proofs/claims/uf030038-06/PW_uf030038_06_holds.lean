import PyProof.Rows.All
import Wide.All
import OpenK.AllK
import Wide.FinOn
import OpenK.KWalk
import PyProof.Cells
import PyProof.CompFree
import PyProof.CompUse
import PyProof.DictCalls
import PyProof.PlainList
import PyProof.Rules3
import PyProof.ListIndex
import PyProof.Rows.Frame
import PyProof.RangeFor
import PyProof.Rules2
import PyProof.PureInt
import PyProof.NoPylong
import PyProof.Rows.RuleB_floordiv
import PyProof.Rows.RuleB_mod
import PyProof.Rows.StrRules
import PyProof.Rows.Chain
import PyProof.Raises
import PyProof.RulesAssignMore
import PyProof.RulesMatch
import PyProof.TupleIter
import PyProof.LetGo
import PyProof.AssignAttr
import OpenK.KMore
import PyProof.CallRoads
import PyProof.CompMap
import PyProof.Walks
import PyProof.RangeIter
import PyProof.P3In
import PyProof.ListTruth
import PyProof.ListIndexNeg
import PyProof.SliceList
import PyProof.FactsAll.list_3
import PyProof.FactsAll.list_4
import PyProof.Rows.Tup
import PyProof.SeqWrite
import PyProof.ReprLoop
import PyProof.IsiPairs
import PyProof.IsiHeapPairs
import PyProof.IsiNone
import PyProof.ListCopy
import PyProof.TupleOfSeq
import PyProof.TupleCall
import PyProof.StrCalls2
import PyProof.ConsumeWalk
import PyProof.Rows.RuleN_abs
import PyProof.Rows.SeqMore
import PyProof.CallStr
import PyProof.StrBlock2
import PyProof.DictDisplay
import PyProof.DictTruth
import OpenK.KLine
import PyProof.DictTable
import PyProof.MeetsSeq
import KE.LcSums
import PyProof.P3Eq
import PyProof.Rows.TupAssign
import KE.KSortTup
import OpenK.KMake
import PyProof.TupleKey
import PyProof.FactsAll.tuple_1
import PyProof.FactsAll.tuple_2
import PyProof.FactsAll.dict_3
import PyProof.MeetsDictList
import PyProof.MinMaxWalk
import KE.KLam
import KE.KNestM
import KE.KSortKey
import PyProof.DefCall
import PyProof.Rows.CallKw2
import PyProof.SliceStr2
import PyProof.StrBlockI
import PyProof.Rows.TopCatch
import PyProof.ExcBaseAll.ValueError
import KE.KTryMore
import KE.KIsAll
import PyProof.ExcAttrAll.ValueError
import PyProof.StrWalks
import PyProof.StrBlock
import PyProof.EqAt
import PyProof.WalksEnum
import PyProof.EnumMake
import PyProof.IsInstanceT
import PyProof.IsiTupleAll
import PyProof.WalkInts
import PyProof.Rows.RuleIs
import Open.FastRun
import Open.FastT9
import Open.Line
import PySem.Challenge.RW_uf030038_06
set_option autoImplicit false
namespace Mine
open PySem PySem.W

/-- abstract values -/
inductive V where
  | none | bool (b : Bool) | int (i : Int) | str (s : Str) | tup (vs : List V) | rng (a b : Int) | ref (a : Addr) | typ (n : String) | blt (i : String)
  deriving Inhabited

abbrev tupObj (items : Array Value) (n : Nat) : Obj := { cls := .type "tuple", data := .seq items n }

mutual
inductive VR (h : Heap) : Value → V → Prop where
  | none : VR h .none .none
  | bool (b : Bool) : VR h (.bool b) (.bool b)
  | int (i : Int) (t : Tok) : VR h (.int i t) (.int i)
  | str (s : Str) (t : Tok) : VR h (.str s t) (.str s)
  | typ (n : String) : VR h (.type n) (.typ n)
  | blt (i : String) : VR h (.builtin i) (.blt i)
  | ref (a : Addr) : VR h (.ref a) (.ref a)
  | tup {a : Addr} {items : Array Value} {n : Nat} {vs : List V} : h.get? a = some (tupObj items n) → VRs h items.toList vs → VR h (.ref a) (.tup vs)
  | rng {r : Addr} {a b : Int} {t u v : Tok} : IsRange h r a b 1 t u v → VR h (.ref r) (.rng a b)
inductive VRs (h : Heap) : List Value → List V → Prop where
  | nil : VRs h [] []
  | cons {v : Value} {vs : List Value} {x : V} {xs : List V} : VR h v x → VRs h vs xs → VRs h (v :: vs) (x :: xs)
end

/-- objects that nothing changes -/
def Imm (o : Obj) : Prop := (∃ items n, o = tupObj items n) ∨ (∃ vs, o = { cls := .type "range", data := .fields vs }) ∨ (o.cls = .type "code" ∧ ∃ vs, o.data = .fields vs)
theorem Imm.tup (items : Array Value) (n : Nat) : Imm (tupObj items n) := .inl ⟨_, _, rfl⟩
theorem Imm.not {o : Obj} (h1 : o.cls ≠ .type "tuple") (h2 : o.cls ≠ .type "range") (h3 : o.cls ≠ .type "code") : ¬ Imm o := by
  rintro (⟨_, _, rfl⟩ | ⟨_, rfl⟩ | ⟨e, _⟩)
  · exact h1 rfl
  · exact h2 rfl
  · exact h3 e
theorem Imm.notDict {o : Obj} {es : Array DictEntry} {n : Nat} (h : o.data = .dict es n) : ¬ Imm o := by
  rintro (⟨_, _, rfl⟩ | ⟨_, rfl⟩ | ⟨_, _, e⟩)
  · cases h
  · cases h
  · rw [h] at e; cases e
theorem Imm.notCell {o : Obj} {v : Option Value} (h : o.data = .cell v) : ¬ Imm o := by
  rintro (⟨_, _, rfl⟩ | ⟨_, rfl⟩ | ⟨_, _, e⟩)
  · cases h
  · cases h
  · rw [h] at e; cases e
/-- every such object of h stands in h' -/
def TupKeep (h h' : Heap) : Prop := ∀ a o, Imm o → h.get? a = some o → h'.get? a = some o

theorem TupKeep.refl (h : Heap) : TupKeep h h := fun _ _ _ e => e
theorem TupKeep.trans {h1 h2 h3 : Heap} (x : TupKeep h1 h2) (y : TupKeep h2 h3) : TupKeep h1 h3 := fun a i n e => y a i n (x a i n e)

mutual
theorem VR.mono {h h' : Heap} (k : TupKeep h h') {v : Value} {x : V} (r : VR h v x) : VR h' v x := by
  cases r with
  | none => exact .none
  | bool b => exact .bool b
  | int i t => exact .int i t
  | str s t => exact .str s t
  | typ n => exact .typ n
  | blt i => exact .blt i
  | ref a => exact .ref a
  | tup e r => exact .tup (k _ _ (.tup _ _) e) (VRs.mono k r)
  | rng e => exact .rng (k _ _ (.inr (.inl ⟨_, rfl⟩)) e)
theorem VRs.mono {h h' : Heap} (k : TupKeep h h') {v : List Value} {x : List V} (r : VRs h v x) : VRs h' v x := by
  cases r with
  | nil => exact .nil
  | cons a b => exact .cons (VR.mono k a) (VRs.mono k b)
end

theorem VRs.length {h : Heap} : ∀ {v : List Value} {x : List V}, VRs h v x → v.length = x.length
  | _, _, .nil => rfl
  | _, _, .cons _ b => congrArg (· + 1) (VRs.length b)

theorem VRs.append {h : Heap} : ∀ {v : List Value} {x : List V} {v' : List Value} {x' : List V}, VRs h v x → VRs h v' x' → VRs h (v ++ v') (x ++ x')
  | _, _, _, _, .nil, r => r
  | _, _, _, _, .cons a b, r => .cons a (VRs.append b r)

theorem VRs.get {h : Heap} : ∀ {v : List Value} {x : List V}, VRs h v x → ∀ {i : Nat} {y : V}, x[i]? = some y → ∃ u, v[i]? = some u ∧ VR h u y
  | _, _, .nil, _, _, e => by simp at e
  | _, _, .cons a b, 0, _, e => by simp at e; subst e; exact ⟨_, rfl, a⟩
  | _, _, .cons a b, i + 1, _, e => by
    obtain ⟨u, h1, h2⟩ := VRs.get b (i := i) (by simpa using e)
    exact ⟨u, by simpa using h1, h2⟩

theorem VRs.get' {h : Heap} : ∀ {v : List Value} {x : List V}, VRs h v x → ∀ {i : Nat} {u : Value}, v[i]? = some u → ∃ y, x[i]? = some y ∧ VR h u y
  | _, _, .nil, _, _, e => by simp at e
  | _, _, .cons a b, 0, _, e => by simp at e; subst e; exact ⟨_, rfl, a⟩
  | _, _, .cons a b, i + 1, _, e => by
    obtain ⟨u, h1, h2⟩ := VRs.get' b (i := i) (by simpa using e)
    exact ⟨u, by simpa using h1, h2⟩

/-- the run's surroundings -/
structure Cx where
  prog : Program
  w : World
  h₀ : Heap
  gens : Array GenState
  os : OsState
  n₀ : Nat
  low : ∀ b o, h₀.get? b = some o → b < n₀
  top : ∀ m, n₀ = m + 1 → ∃ o, h₀.get? m = some o
  K : Frag
  KX : K.In h₀
  mg : Str → Option Value
  mb : Str → Option Value
  hg : h₀.Ns mainGlobals mg
  hb : h₀.Ns builtinsNs mb
  blt : ∀ x : Str, x ≠ "__name__" → mb x = bootBuiltins x
  lim : h₀.NoLimit
  tabs : List Addr
  /-- nothing is said of where new objects lie -/
  loose : Prop
abbrev Cx.M (C : Cx) : Model := model C.prog C.w

/-- abstract objects -/
inductive O where
  | list (vs : List V)
  | sd (es : List (Str × V))
  | id (es : List (Int × V))
  | inst (cls dx : Addr)
  | tab (pos : Pos) (q : Str)
  | exc (cls : Addr)

abbrev Store := Addr → Option O
def Store.upd (σ : Store) (a : Addr) (o : O) : Store := fun b => if b = a then some o else σ b
theorem Store.upd_self (σ : Store) (a : Addr) (o : O) : σ.upd a o a = some o := by simp [Store.upd]
theorem Store.upd_ne (σ : Store) {a b : Addr} (o : O) (h : b ≠ a) : σ.upd a o b = σ b := by simp [Store.upd, h]

inductive PR {K : Type} (h : Heap) : List (K × Value) → List (K × V) → Prop
  | nil : PR h [] []
  | cons {k : K} {v : Value} {x : V} {r : List (K × Value)} {r' : List (K × V)} : VR h v x → PR h r r' → PR h ((k, v) :: r) ((k, x) :: r')

theorem PR.mono {K : Type} {h h' : Heap} (k : TupKeep h h') : ∀ {a : List (K × Value)} {b : List (K × V)}, PR h a b → PR h' a b
  | _, _, .nil => .nil
  | _, _, .cons x y => .cons (x.mono k) (PR.mono k y)

abbrev instO (C dx : Addr) : Obj := { cls := .ref C, dict := some dx }

def Rep (C : Cx) (h : Heap) (a : Addr) : O → Prop
  | .list vs => ∃ items, h.PlainList a items ∧ VRs h items.toList vs
  | .sd es => ∃ kvs, h.DictOf (strKind C.prog C.w) a kvs ∧ PR h kvs es
  | .id es => ∃ kvs, h.DictOf (intKind C.prog C.w) a kvs ∧ PR h kvs es
  | .inst c dx => h.get? a = some (instO c dx)
  | .tab pos q => h.get? a = some { cls := .none, data := .fields #[] } ∨ ∃ c' o vs t, h.get? a = some { cls := .none, data := .fields #[rawInt pos.line, rawInt pos.col, .ref c'] } ∧ h.get? c' = some o ∧ o.cls = .type "code" ∧ o.data = .fields vs ∧ vs[1]? = some (.str q t)
  | .exc c => ∃ o vs, h.get? a = some o ∧ o.cls = .ref c ∧ o.data = .fields vs

theorem Rep.isSome {C : Cx} {h : Heap} {a : Addr} {o : O} (r : Rep C h a o) : ∃ x, h.get? a = some x ∧ ¬ Imm x := by
  cases o with
  | list vs => obtain ⟨items, ⟨n, e⟩, _⟩ := r; exact ⟨_, e, Imm.not (by simp) (by simp) (by simp)⟩
  | sd es =>
    obtain ⟨kvs, d, _⟩ := r
    obtain ⟨o, es, ep, ho, hx, _⟩ := d
    exact ⟨o, ho, Imm.not (by rw [hx.1]; decide) (by rw [hx.1]; decide) (by rw [hx.1]; decide)⟩
  | id es =>
    obtain ⟨kvs, d, _⟩ := r
    obtain ⟨o, es, ep, ho, hx, _⟩ := d
    exact ⟨o, ho, Imm.not (by rw [hx.1]; decide) (by rw [hx.1]; decide) (by rw [hx.1]; decide)⟩
  | inst c dx => exact ⟨_, r, Imm.not (fun z => by cases z) (fun z => by cases z) (fun z => by cases z)⟩
  | tab pos q =>
    rcases r with e | ⟨c', o, vs, t, e, _⟩
    · exact ⟨_, e, Imm.not (fun z => by cases z) (fun z => by cases z) (fun z => by cases z)⟩
    · exact ⟨_, e, Imm.not (fun z => by cases z) (fun z => by cases z) (fun z => by cases z)⟩
  | exc c =>
    obtain ⟨o, vs, e, hc, _⟩ := r
    exact ⟨o, e, Imm.not (fun z => by rw [hc] at z; cases z) (fun z => by rw [hc] at z; cases z) (fun z => by rw [hc] at z; cases z)⟩

/-- a represented object stands as it stood where it is kept itself and all tuples are -/
theorem Rep.at {C : Cx} {h h' : Heap} {a : Addr} {o : O} (r : Rep C h a o) (k : ∀ x, h.get? a = some x → h'.get? a = some x) (t : TupKeep h h') : Rep C h' a o := by
  cases o with
  | list vs => obtain ⟨items, p, q⟩ := r; exact ⟨items, p.at k, q.mono t⟩
  | sd es =>
    obtain ⟨kvs, d, q⟩ := r
    obtain ⟨o, es', ep, ho, rest⟩ := d
    exact ⟨kvs, ⟨o, es', ep, k _ ho, rest⟩, q.mono t⟩
  | id es =>
    obtain ⟨kvs, d, q⟩ := r
    obtain ⟨o, es', ep, ho, rest⟩ := d
    exact ⟨kvs, ⟨o, es', ep, k _ ho, rest⟩, q.mono t⟩
  | inst c dx => exact k _ r
  | tab pos q =>
    rcases r with e | ⟨c', o, vs, u, e, e2, h1, h2, h3⟩
    · exact .inl (k _ e)
    · exact .inr ⟨c', o, vs, u, k _ e, t _ _ (.inr (.inr ⟨h1, vs, h2⟩)) e2, h1, h2, h3⟩
  | exc c =>
    obtain ⟨o, vs, e, r⟩ := r
    exact ⟨o, vs, k _ e, r⟩

structure St (C : Cx) (σ : Store) (s : Shared) : Prop where
  base : ∀ b o, C.h₀.get? b = some o → s.heap.get? b = some o
  rep : ∀ a o, σ a = some o → Rep C s.heap a o
  above : ∀ a o, σ a = some o → C.h₀.get? a = none ∧ (C.n₀ ≤ a ∨ a ∈ C.tabs ∨ C.loose)
  gens : s.gens = C.gens
  os : s.os = C.os

theorem St.size {C : Cx} {σ : Store} {s : Shared} (S : St C σ s) : C.n₀ ≤ s.heap.objs.size := by
  cases q : C.n₀ with
  | zero => exact Nat.zero_le _
  | succ m =>
    obtain ⟨o, e⟩ := C.top m q
    exact Heap.lt_size (S.base m o e)

/-- an object stands as it stood; a dict (so: a frame) may have other slots -/
def Kept (h' : Heap) (b : Addr) (o : Obj) : Prop := h'.get? b = some o ∨ ((∃ es n, o.data = .dict es n) ∧ ∃ sl, h'.get? b = some { o with slots := sl })
theorem Kept.got {h' : Heap} {b : Addr} {o : Obj} (x : Kept h' b o) : ∃ o', h'.get? b = some o' := by
  rcases x with x | ⟨_, _, x⟩ <;> exact ⟨_, x⟩
theorem Kept.trans {h1 h2 : Heap} {b : Addr} {o : Obj} (x : Kept h1 b o) (k : ∀ o', h1.get? b = some o' → Kept h2 b o') : Kept h2 b o := by
  rcases x with x | ⟨⟨es, n, d⟩, sl, x⟩
  · exact k _ x
  · rcases k _ x with y | ⟨_, sl', y⟩
    · exact .inr ⟨⟨es, n, d⟩, sl, y⟩
    · exact .inr ⟨⟨es, n, d⟩, sl', y⟩
theorem Kept.exact {h' : Heap} {b : Addr} {o : Obj} (x : Kept h' b o) (hn : ∀ es n, o.data ≠ .dict es n) : h'.get? b = some o := by
  rcases x with x | ⟨⟨es, n, d⟩, _⟩
  · exact x
  · exact absurd d (hn es n)
theorem Kept.same {h' : Heap} {b : Addr} {o : Obj} (x : Kept h' b o) : ∃ o', h'.get? b = some o' ∧ o'.data = o.data := by
  rcases x with x | ⟨_, _, x⟩
  · exact ⟨_, x, rfl⟩
  · exact ⟨_, x, rfl⟩
structure Evo (σ : Store) (h : Heap) (σ' : Store) (h' : Heap) : Prop where
  keep : ∀ b o, h.get? b = some o → σ b = none → Kept h' b o
  dom : ∀ b o, σ' b = some o → (∃ o', σ b = some o') ∨ h.get? b = none
  mono : ∀ b o, σ b = some o → ∃ o', σ' b = some o'
  tup : TupKeep h h'

theorem Evo.refl (σ : Store) (h : Heap) : Evo σ h σ h := ⟨fun _ _ e _ => .inl e, fun _ _ e => .inl ⟨_, e⟩, fun _ _ e => ⟨_, e⟩, .refl _⟩
theorem Evo.trans {σ1 σ2 σ3 : Store} {h1 h2 h3 : Heap} (x : Evo σ1 h1 σ2 h2) (y : Evo σ2 h2 σ3 h3) : Evo σ1 h1 σ3 h3 := by
  refine ⟨fun b o e n => ?_, fun b o e => ?_, fun b o e => ?_, x.tup.trans y.tup⟩
  · refine (x.keep b o e n).trans fun o' e' => y.keep b o' e' ?_
    cases q : σ2 b with
    | none => rfl
    | some o2 =>
      rcases x.dom b o2 q with ⟨o', e'⟩ | e'
      · rw [n] at e'; cases e'
      · rw [e] at e'; cases e'
  · rcases y.dom b o e with ⟨o', e'⟩ | e'
    · exact x.dom b o' e'
    · cases q : h1.get? b with
      | none => exact .inr rfl
      | some o1 =>
        left
        cases q' : σ1 b with
        | some o' => exact ⟨o', rfl⟩
        | none =>
          obtain ⟨o', z⟩ := (x.keep b o1 q q').got
          rw [z] at e'; cases e'
  · obtain ⟨o', e'⟩ := x.mono b o e
    exact y.mono b o' e'

/-- raw raised values and states -/
abbrev XP := Value → Shared → Prop

/-- what a tree of values gives -/
inductive EP (C : Cx) (σ : Store) (h : Heap) (Q : V → Store → Prop) (v : Value) (s' : Shared) : Prop
  | mk (x : V) (σ' : Store) (q : Q x σ') (r : VR s'.heap v x) (S : St C σ' s') (e : Evo σ h σ' s'.heap) : EP C σ h Q v s'
/-- a test's end -/
inductive TP (C : Cx) (σ : Store) (h : Heap) (Q : Bool → Store → Prop) (b : Bool) (s' : Shared) : Prop
  | mk (σ' : Store) (q : Q b σ') (S : St C σ' s') (e : Evo σ h σ' s'.heap) : TP C σ h Q b s'

theorem EP.after {C : Cx} {σ σ1 : Store} {h h1 : Heap} {Q : V → Store → Prop} {v : Value} {s' : Shared} (x : EP C σ1 h1 Q v s') (k : Evo σ h σ1 h1) : EP C σ h Q v s' :=
  let ⟨a, b, c, d, e, f⟩ := x; ⟨a, b, c, d, e, k.trans f⟩

/-- names to values -/
abbrev Rho := List (Str × V)
def Rho.get : Rho → Str → Option V
  | [], _ => none
  | (y, v) :: r, x => if x = y then some v else Rho.get r x
def Rho.put : Rho → Str → V → Rho
  | [], x, v => [(x, v)]
  | (y, u) :: r, x, v => if x = y then (x, v) :: r else (y, u) :: Rho.put r x v
theorem Rho.get_hit {x : Str} {v : V} {r : Rho} : Rho.get ((x, v) :: r) x = some v := by simp [Rho.get]
theorem Rho.get_miss {x y : Str} {u : V} {v : Option V} {r : Rho} (h : x ≠ y) (k : Rho.get r x = v) : Rho.get ((y, u) :: r) x = v := by simp [Rho.get, h, k]
theorem Rho.put_nil {x : Str} {v : V} : Rho.put [] x v = [(x, v)] := rfl
theorem Rho.put_hit {x : Str} {u v : V} {r : Rho} : Rho.put ((x, u) :: r) x v = (x, v) :: r := by simp [Rho.put]
theorem Rho.put_miss {x y : Str} {u v : V} {r r' : Rho} (h : x ≠ y) (k : Rho.put r x v = r') : Rho.put ((y, u) :: r) x v = (y, u) :: r' := by simp [Rho.put, h, k]
theorem Rho.get_put (x : Str) (v : V) : ∀ (r : Rho) (y : Str), Rho.get (Rho.put r x v) y = if y = x then some v else Rho.get r y
  | [], y => by simp [Rho.put, Rho.get]
  | (z, u) :: r, y => by
    have ih := Rho.get_put x v r y
    by_cases h : x = z
    · subst h
      simp only [Rho.put, if_true, Rho.get]
      by_cases h2 : y = x <;> simp [h2]
    · simp only [Rho.put, h, if_false, Rho.get]
      by_cases h2 : y = z
      · subst h2; simp [Ne.symm h]
      · simp [h2, ih]

/-- the frame -/
structure Fm (C : Cx) (σ : Store) (h : Heap) (env : Env) (ρ : Rho) : Prop where
  fn : env.scope.kind = .function
  loc : ∃ m, h.Ns env.locals m ∧ ∀ x v, env.kindOf x = some .local → ρ.get x = some v → ∃ u, m x = some u ∧ VR h u v
  locs : σ env.locals = none
  abv : C.n₀ ≤ env.locals
  cell : ∀ x c, env.cells.lookup x = some c → ∃ ov, h.IsCell c ov ∧ (∀ v, ρ.get x = some v → ∃ u, ov = some u ∧ VR h u v) 
  ncell : ∀ x c, env.cells.lookup x = some c → σ c = none ∧ c ≠ env.locals ∧ C.n₀ ≤ c
  apart : ∀ x y c, env.cells.lookup x = some c → env.cells.lookup y = some c → x = y

theorem isCell_at {h h' : Heap} {c : Addr} {v : Option Value} (x : h.IsCell c v) (k : ∀ o, h.get? c = some o → h'.get? c = some o) : h'.IsCell c v := by
  unfold Heap.IsCell at *
  obtain ⟨o, e, r⟩ := x
  exact ⟨o, k _ e, r⟩
theorem isCell_kept {h h' : Heap} {c : Addr} {v : Option Value} (x : h.IsCell c v) (k : ∀ o, h.get? c = some o → Kept h' c o) : h'.IsCell c v := by
  unfold Heap.IsCell at *
  obtain ⟨o, e, r⟩ := x
  obtain ⟨o', e', d⟩ := (k _ e).same
  exact ⟨o', e', d.trans r⟩
theorem ns_kept {h h' : Heap} {L : Addr} {m : Str → Option Value} (x : h.Ns L m) (k : ∀ o, h.get? L = some o → Kept h' L o) : h'.Ns L m := by
  obtain ⟨o, es, ep, ho, hd, rest⟩ := x
  obtain ⟨o', e', d⟩ := (k _ ho).same
  exact ⟨o', es, ep, e', d.trans hd, rest⟩

theorem Fm.evo {C : Cx} {σ σ' : Store} {h h' : Heap} {env : Env} {ρ : Rho} (F : Fm C σ h env ρ) (k : Evo σ h σ' h') : Fm C σ' h' env ρ := by
  obtain ⟨f1, ⟨m, hm, f2⟩, f3, f5, f6, f7, f8⟩ := F
  have hm' := ns_kept hm fun o e => k.keep _ _ e f3
  obtain ⟨o, es, ep, ho, rest⟩ := hm
  have nd : ∀ b o, h.get? b = some o → σ b = none → σ' b = none := fun b o e n => by
    cases q : σ' b with
    | none => rfl
    | some o2 =>
      rcases k.dom b o2 q with ⟨o', e'⟩ | e'
      · rw [n] at e'; cases e'
      · rw [e] at e'; cases e'
  refine ⟨f1, ⟨m, hm', fun x v hx hv => ?_⟩, nd _ _ ho f3, f5, fun x c hc => ?_, fun x c hc => ?_, f8⟩
  · obtain ⟨u, a, b⟩ := f2 x v hx hv
    exact ⟨u, a, b.mono k.tup⟩
  · obtain ⟨ov, a, b⟩ := f6 x c hc
    obtain ⟨n1, _, _⟩ := f7 x c hc
    refine ⟨ov, isCell_kept a fun o e => k.keep _ _ e n1, fun v hv => ?_⟩
    obtain ⟨u, p, q⟩ := b v hv
    exact ⟨u, p, q.mono k.tup⟩
  · obtain ⟨n1, n2, n3⟩ := f7 x c hc
    obtain ⟨ov, a, b⟩ := f6 x c hc
    have a' := a
    unfold Heap.IsCell at a'
    obtain ⟨o, e, _⟩ := a'
    exact ⟨nd _ _ e n1, n2, n3⟩

/-- an expression's evaluation -/
def Ev (C : Cx) (A : Around) (env : Env) (e : Expr) (ρ : Rho) (σ : Store) (Q : V → Store → Prop) (X : XP) : Prop :=
  ∀ s, St C σ s → Fm C σ s.heap env ρ → wpAny C.M A (eval e env) (EP C σ s.heap Q) X s

/-- a test -/
def Tst (C : Cx) (A : Around) (env : Env) (e : Expr) (ρ : Rho) (σ : Store) (Q : Bool → Store → Prop) (X : XP) : Prop :=
  ∀ s, St C σ s → Fm C σ s.heap env ρ → wpAny C.M A (isTrue e env (eval e env)) (TP C σ s.heap Q) X s

def BinWP (C : Cx) (A : Around) (op : Operator) (x y : V) (σ : Store) (Q : V → Store → Prop) (X : XP) : Prop :=
  ∀ s a b, St C σ s → VR s.heap a x → VR s.heap b y → wpAny C.M A (binaryOp op a b) (EP C σ s.heap Q) X s
def CmpWP (C : Cx) (A : Around) (op : CmpOp) (x y : V) (σ : Store) (Q : V → Store → Prop) (X : XP) : Prop :=
  ∀ s a b, St C σ s → VR s.heap a x → VR s.heap b y → wpAny C.M A (compareOp op a b) (EP C σ s.heap Q) X s
def UnWP (C : Cx) (A : Around) (op : UnaryOp) (x : V) (σ : Store) (Q : V → Store → Prop) (X : XP) : Prop :=
  ∀ s a, St C σ s → VR s.heap a x → wpAny C.M A (unaryOp op a) (EP C σ s.heap Q) X s
def TruWP (C : Cx) (A : Around) (x : V) (σ : Store) (Q : Bool → Store → Prop) (X : XP) : Prop :=
  ∀ s a, St C σ s → VR s.heap a x → wpAny C.M A (truthy a) (TP C σ s.heap Q) X s

section
variable {C : Cx} {A : Around} {env : Env} {ρ : Rho} {σ : Store} {X : XP}

theorem Ev.bin {l r : Expr} {op : Operator} {pos : Pos} {Q : V → Store → Prop}
    (h : Ev C A env l ρ σ (fun x σ1 => Ev C A env r ρ σ1 (fun y σ2 => BinWP C A op x y σ2 Q X) X) X) : Ev C A env (.BinOp l op r pos) ρ σ Q X := by
  intro s S F
  refine wpAny_BinOp (wpAny_mono (h s S F) ?_ fun _ _ z => z)
  rintro a s1 ⟨x, σ1, h1, r1, S1, e1⟩
  refine wpAny_mono (h1 s1 S1 (F.evo e1)) ?_ fun _ _ z => z
  rintro b s2 ⟨y, σ2, h2, r2, S2, e2⟩
  exact wpAny_mono (h2 s2 a b S2 (r1.mono e2.tup) r2) (fun _ _ z => (z.after e2).after e1) fun _ _ z => z
end

end Mine

set_option autoImplicit false
set_option linter.unusedVariables false
namespace Mine
open PySem PySem.W

theorem St.toks {C : Cx} {σ : Store} {s : Shared} (x : St C σ s) (t : Nat) : St C σ { s with toks := t } := ⟨x.base, x.rep, x.above, x.gens, x.os⟩

section
variable {C : Cx} {A : Around} {env : Env} {ρ : Rho} {σ : Store} {X : XP}

theorem EP.pure {s : Shared} {Q : V → Store → Prop} {v : Value} {x : V} (S : St C σ s) (q : Q x σ) (r : VR s.heap v x) : EP C σ s.heap Q v s :=
  ⟨x, σ, q, r, S, .refl ..⟩
theorem EP.pureT {s : Shared} {Q : V → Store → Prop} {v : Value} {x : V} {t : Nat} (S : St C σ s) (q : Q x σ) (r : VR s.heap v x) : EP C σ s.heap Q v { s with toks := t } :=
  ⟨x, σ, q, r, S.toks t, .refl ..⟩

/- constants -/
theorem Ev.cint {i : Int} {k : Nat} {pos : Pos} {Q : V → Store → Prop} (h : Q (.int i) σ) : Ev C A env (.Constant (.int i) k pos) ρ σ Q X :=
  fun _ S _ => wpAny_Constant_int (EP.pureT S h (.int _ _))
theorem Ev.cstr {i : Str} {k : Nat} {pos : Pos} {Q : V → Store → Prop} (h : Q (.str i) σ) : Ev C A env (.Constant (.str i) k pos) ρ σ Q X :=
  fun _ S _ => wpAny_Constant_str (EP.pureT S h (.str _ _))
theorem Ev.cbool {i : Bool} {k : Nat} {pos : Pos} {Q : V → Store → Prop} (h : Q (.bool i) σ) : Ev C A env (.Constant (.bool i) k pos) ρ σ Q X :=
  fun _ S _ => wpAny_Constant_bool (EP.pure S h (.bool _))
theorem Ev.cnone {k : Nat} {pos : Pos} {Q : V → Store → Prop} (h : Q .none σ) : Ev C A env (.Constant .none k pos) ρ σ Q X :=
  fun _ S _ => wpAny_Constant_none (EP.pure S h .none)

/- names -/
theorem Ev.loc {x : Str} {pos : Pos} {v : V} {Q : V → Store → Prop} (hk : env.kindOf x = some .local) (hv : ρ.get x = some v) (h : Q v σ)
    (hd : (x == ("__debug__" : Str)) = false) : Ev C A env (.Name x pos) ρ σ Q X := by
  intro s S F
  obtain ⟨m, hm, f⟩ := F.loc
  obtain ⟨u, hu, r⟩ := f x v hk hv
  exact wpAny_Name (wpAny_loadName_local F.fn hk hm hu (EP.pure S h r)) hd
theorem Ev.cel {x : Str} {pos : Pos} {v : V} {c : Addr} {Q : V → Store → Prop} (hk : env.kindOf x = some .cell) (hc : env.cells.lookup x = some c) (hv : ρ.get x = some v) (h : Q v σ)
    (hd : (x == ("__debug__" : Str)) = false) : Ev C A env (.Name x pos) ρ σ Q X := by
  intro s S F
  obtain ⟨ov, a, b⟩ := F.cell x c hc
  obtain ⟨u, rfl, r⟩ := b v hv
  exact wpAny_Name (wpAny_loadName_cell F.fn hk hc a (EP.pure S h r)) hd
theorem Ev.free {x : Str} {pos : Pos} {v : V} {c : Addr} {Q : V → Store → Prop} (hk : env.kindOf x = some .free) (hc : env.cells.lookup x = some c) (hv : ρ.get x = some v) (h : Q v σ)
    (hd : (x == ("__debug__" : Str)) = false) (hn : (x == ("__classdict__" : Str)) = false) : Ev C A env (.Name x pos) ρ σ Q X := by
  intro s S F
  obtain ⟨ov, a, b⟩ := F.cell x c hc
  obtain ⟨u, rfl, r⟩ := b v hv
  exact wpAny_Name (wpAny_loadName_free F.fn hk hc a (EP.pure S h r) hn) hd

/- compare -/
theorem Ev.cmp {l r : Expr} {op : CmpOp} {pos : Pos} {Q : V → Store → Prop}
    (h : Ev C A env l ρ σ (fun x σ1 => Ev C A env r ρ σ1 (fun y σ2 => CmpWP C A op x y σ2 Q X) X) X) (hm : behindInMarks op r = false := by kernel_rfl) : Ev C A env (.Compare l [op] [r] pos) ρ σ Q X := by
  intro s S F
  refine wpAny_Compare1 (wpAny_mono (h s S F) ?_ fun _ _ z => z) hm
  rintro a s1 ⟨x, σ1, h1, r1, S1, e1⟩
  refine wpAny_mono (h1 s1 S1 (F.evo e1)) ?_ fun _ _ z => z
  rintro b s2 ⟨y, σ2, h2, r2, S2, e2⟩
  exact wpAny_mono (h2 s2 a b S2 (r1.mono e2.tup) r2) (fun _ _ z => (z.after e2).after e1) fun _ _ z => z

theorem Ev.un {e : Expr} {op : UnaryOp} {pos : Pos} {Q : V → Store → Prop} (h : Ev C A env e ρ σ (fun x σ1 => UnWP C A op x σ1 Q X) X) : Ev C A env (.UnaryOp op e pos) ρ σ Q X := by
  intro s S F
  refine wpAny_UnaryOp (wpAny_mono (h s S F) ?_ fun _ _ z => z)
  rintro a s1 ⟨x, σ1, h1, r1, S1, e1⟩
  exact wpAny_mono (h1 s1 a S1 r1) (fun _ _ z => z.after e1) fun _ _ z => z

theorem TP.after {σ1 : Store} {h h1 : Heap} {Q : Bool → Store → Prop} {v : Bool} {s' : Shared} (x : TP C σ1 h1 Q v s') (k : Evo σ h σ1 h1) : TP C σ h Q v s' :=
  let ⟨a, b, c, d⟩ := x; ⟨a, b, c, k.trans d⟩
theorem TP.pure {s : Shared} {Q : Bool → Store → Prop} {v : Bool} (S : St C σ s) (q : Q v σ) : TP C σ s.heap Q v s := ⟨σ, q, S, .refl ..⟩

theorem Tst.mono {e : Expr} {Q Q' : Bool → Store → Prop} (h : Tst C A env e ρ σ Q X) (k : ∀ x σ', Q x σ' → Q' x σ') : Tst C A env e ρ σ Q' X :=
  fun s S F => wpAny_mono (h s S F) (fun _ _ ⟨a, b, c, d⟩ => ⟨a, k _ _ b, c, d⟩) fun _ _ z => z

theorem Tst.cmp {l r : Expr} {op : CmpOp} {pos : Pos} {Q : Bool → Store → Prop}
    (h : Ev C A env l ρ σ (fun x σ1 => Ev C A env r ρ σ1 (fun y σ2 => CmpWP C A op x y σ2 (fun c σ3 => TruWP C A c σ3 Q X) X) X) X) (hm : behindInMarks op r = false := by kernel_rfl) :
    Tst C A env (.Compare l [op] [r] pos) ρ σ Q X := by
  intro s S F
  refine wpAny_isTrue_Compare1 (wpAny_mono (h s S F) ?_ fun _ _ z => z) hm
  rintro a s1 ⟨x, σ1, h1, r1, S1, e1⟩
  refine wpAny_mono (h1 s1 S1 (F.evo e1)) ?_ fun _ _ z => z
  rintro b s2 ⟨y, σ2, h2, r2, S2, e2⟩
  refine wpAny_mono (h2 s2 a b S2 (r1.mono e2.tup) r2) ?_ fun _ _ z => z
  rintro c s3 ⟨z, σ3, h3, r3, S3, e3⟩
  exact wpAny_mono (h3 s3 c S3 r3) (fun _ _ z => TP.after z ((e1.trans e2).trans e3)) fun _ _ z => z

theorem Tst.not {e : Expr} {pos : Pos} {Q : Bool → Store → Prop} (h : Tst C A env e ρ σ (fun b σ' => Q (!b) σ') X) : Tst C A env (.UnaryOp .Not e pos) ρ σ Q X :=
  fun s S F => wpAny_isTrue_Not (wpAny_mono (h s S F) (fun _ _ ⟨a, b, c, d⟩ => ⟨a, b, c, d⟩) fun _ _ z => z)

/-- a test by its value -/
theorem Tst.val {e : Expr} {Q : Bool → Store → Prop} (h : Ev C A env e ρ σ (fun x σ1 => TruWP C A x σ1 Q X) X)
    (he : isTrue e env (eval e env) = (do let v ← eval e env; standAt e.pos; holding [v] (truthy v)) := by kernel_rfl) : Tst C A env e ρ σ Q X := by
  intro s S F
  refine wpAny_isTrue_value (wpAny_mono (h s S F) ?_ fun _ _ z => z) he
  rintro c s3 ⟨z, σ3, h3, r3, S3, e3⟩
  exact wpAny_mono (h3 s3 c S3 r3) (fun _ _ z => TP.after z e3) fun _ _ z => z

def AllT (C : Cx) (A : Around) (env : Env) (op : BoolOp) (es : List Expr) (ρ : Rho) (σ : Store) (Q : Bool → Store → Prop) (X : XP) : Prop :=
  ∀ s, St C σ s → Fm C σ s.heap env ρ → wpAny C.M A (allTrue op es env) (TP C σ s.heap Q) X s
theorem Tst.boolop {op : BoolOp} {es : List Expr} {pos : Pos} {Q : Bool → Store → Prop} (h : AllT C A env op es ρ σ Q X) : Tst C A env (.BoolOp op es pos) ρ σ Q X :=
  fun s S F => wpAny_isTrue_BoolOp (h s S F)
theorem AllT.and_nil {Q : Bool → Store → Prop} (h : Q true σ) : AllT C A env .And [] ρ σ Q X := fun s S _ => wpAny_allTrue_And_nil (TP.pure S h)
theorem AllT.or_nil {Q : Bool → Store → Prop} (h : Q false σ) : AllT C A env .Or [] ρ σ Q X := fun s S _ => wpAny_allTrue_Or_nil (TP.pure S h)
theorem AllT.and_cons {e : Expr} {es : List Expr} {Q : Bool → Store → Prop} (h : Tst C A env e ρ σ (fun b σ1 => if b then AllT C A env .And es ρ σ1 Q X else Q false σ1) X) : AllT C A env .And (e :: es) ρ σ Q X := by
  intro s S F
  refine wpAny_allTrue_And_cons (wpAny_mono (h s S F) ?_ fun _ _ z => z)
  rintro b s1 ⟨σ1, h1, S1, e1⟩
  cases b with
  | true => exact wpAny_mono (h1 s1 S1 (F.evo e1)) (fun _ _ z => TP.after z e1) fun _ _ z => z
  | false => exact ⟨σ1, h1, S1, e1⟩
theorem AllT.or_cons {e : Expr} {es : List Expr} {Q : Bool → Store → Prop} (h : Tst C A env e ρ σ (fun b σ1 => if b then Q true σ1 else AllT C A env .Or es ρ σ1 Q X) X) : AllT C A env .Or (e :: es) ρ σ Q X := by
  intro s S F
  refine wpAny_allTrue_Or_cons (wpAny_mono (h s S F) ?_ fun _ _ z => z)
  rintro b s1 ⟨σ1, h1, S1, e1⟩
  cases b with
  | false => exact wpAny_mono (h1 s1 S1 (F.evo e1)) (fun _ _ z => TP.after z e1) fun _ _ z => z
  | true => exact ⟨σ1, h1, S1, e1⟩

/- and, or as values -/
def BoolE (C : Cx) (A : Around) (env : Env) (pos : Pos) (op : BoolOp) (es : List Expr) (ρ : Rho) (σ : Store) (Q : V → Store → Prop) (X : XP) : Prop :=
  ∀ s, St C σ s → Fm C σ s.heap env ρ → wpAny C.M A (boolOp pos op (evalEach es env)) (EP C σ s.heap Q) X s
theorem Ev.boolop {op : BoolOp} {es : List Expr} {pos : Pos} {Q : V → Store → Prop} (h : BoolE C A env pos op es ρ σ Q X) : Ev C A env (.BoolOp op es pos) ρ σ Q X :=
  fun s S F => h s S F
theorem BoolE.one {op : BoolOp} {e : Expr} {pos : Pos} {Q : V → Store → Prop} (h : Ev C A env e ρ σ Q X) : BoolE C A env pos op [e] ρ σ Q X :=
  fun s S F => h s S F
theorem BoolE.and {e e' : Expr} {es : List Expr} {pos : Pos} {Q : V → Store → Prop}
    (h : Ev C A env e ρ σ (fun x σ1 => TruWP C A x σ1 (fun b σ2 => if b then BoolE C A env pos .And (e' :: es) ρ σ2 Q X else Q x σ2) X) X) : BoolE C A env pos .And (e :: e' :: es) ρ σ Q X := by
  intro s S F
  show wpAny C.M A (do
    let v ← eval e env
    standAt pos
    let t ← holding [v] (truthy v)
    match BoolOp.And, t with
    | .And, false | .Or, true => pure v
    | _, _ => boolOp pos .And (evalEach (e' :: es) env)) _ _ s
  refine wpAny_bind (wpAny_mono (h s S F) ?_ fun _ _ z => z)
  rintro v s1 ⟨x, σ1, h1, r1, S1, e1⟩
  refine wpAny_bind (wpAny_standAt (wpAny_bind (wpAny_holding (wpAny_mono (h1 s1 v S1 r1) ?_ fun _ _ z => z))))
  rintro t s2 ⟨σ2, h2, S2, e2⟩
  cases t with
  | true => exact wpAny_mono (h2 s2 S2 ((F.evo e1).evo e2)) (fun _ _ z => (z.after e2).after e1) fun _ _ z => z
  | false => exact wpAny_pure ⟨x, σ2, h2, r1.mono e2.tup, S2, e1.trans e2⟩
/- chains of two -/
theorem Ev.chain {l r1 r2 : Expr} {op1 op2 : CmpOp} {pos : Pos} {Q : V → Store → Prop}
    (h : Ev C A env l ρ σ (fun x σ1 => Ev C A env r1 ρ σ1 (fun y σ2 => CmpWP C A op1 x y σ2 (fun c σ3 => TruWP C A c σ3 (fun b σ4 =>
      if b then Ev C A env r2 ρ σ4 (fun z σ5 => CmpWP C A op2 y z σ5 Q X) X else Q c σ4) X) X) X) X)
    (hm : lastMarks [op1, op2] [r1, r2] = false := by kernel_rfl) : Ev C A env (.Compare l [op1, op2] [r1, r2] pos) ρ σ Q X := by
  intro s S F
  refine PyProof.Rows.Compare_chain (wpAny_mono (h s S F) ?_ fun _ _ z => z) hm
  rintro a s1 ⟨x, σ1, h1, v1, S1, e1⟩
  refine PyProof.Rows.chain_link (wpAny_mono (h1 s1 S1 (F.evo e1)) ?_ fun _ _ z => z)
  rintro b s2 ⟨y, σ2, h2, v2, S2, e2⟩
  refine wpAny_mono (h2 s2 a b S2 (v1.mono e2.tup) v2) ?_ fun _ _ z => z
  rintro c s3 ⟨z, σ3, h3, v3, S3, e3⟩
  refine wpAny_mono (h3 s3 c S3 v3) ?_ fun _ _ z => z
  rintro t s4 ⟨σ4, h4, S4, e4⟩
  have e14 := ((e1.trans e2).trans e3).trans e4
  cases t with
  | false => exact ⟨z, σ4, h4, v3.mono e4.tup, S4, e14⟩
  | true =>
    refine PyProof.Rows.chain_last (wpAny_mono (h4 s4 S4 (F.evo e14)) ?_ fun _ _ z => z)
    rintro d s5 ⟨z', σ5, h5, v5, S5, e5⟩
    exact wpAny_mono (h5 s5 b d S5 (((v2.mono e3.tup).mono e4.tup).mono e5.tup) v5) (fun _ _ z => z.after (e14.trans e5)) fun _ _ z => z
theorem Tst.chain {l r1 r2 : Expr} {op1 op2 : CmpOp} {pos : Pos} {Q : Bool → Store → Prop}
    (h : Ev C A env l ρ σ (fun x σ1 => Ev C A env r1 ρ σ1 (fun y σ2 => CmpWP C A op1 x y σ2 (fun c σ3 => TruWP C A c σ3 (fun b σ4 =>
      if b then Ev C A env r2 ρ σ4 (fun z σ5 => CmpWP C A op2 y z σ5 (fun c σ6 => TruWP C A c σ6 Q X) X) X else Q false σ4) X) X) X) X)
    (hm : lastMarks [op1, op2] [r1, r2] = false := by kernel_rfl) : Tst C A env (.Compare l [op1, op2] [r1, r2] pos) ρ σ Q X := by
  intro s S F
  refine PyProof.Rows.isTrue_chain (wpAny_mono (h s S F) ?_ fun _ _ z => z) hm
  rintro a s1 ⟨x, σ1, h1, v1, S1, e1⟩
  refine PyProof.Rows.test_link (wpAny_mono (h1 s1 S1 (F.evo e1)) ?_ fun _ _ z => z)
  rintro b s2 ⟨y, σ2, h2, v2, S2, e2⟩
  refine wpAny_mono (h2 s2 a b S2 (v1.mono e2.tup) v2) ?_ fun _ _ z => z
  rintro c s3 ⟨z, σ3, h3, v3, S3, e3⟩
  refine wpAny_mono (h3 s3 c S3 v3) ?_ fun _ _ z => z
  rintro t s4 ⟨σ4, h4, S4, e4⟩
  have e14 := ((e1.trans e2).trans e3).trans e4
  cases t with
  | false => exact ⟨σ4, h4, S4, e14⟩
  | true =>
    refine PyProof.Rows.test_last (wpAny_mono (h4 s4 S4 (F.evo e14)) ?_ fun _ _ z => z)
    rintro d s5 ⟨z', σ5, h5, v5, S5, e5⟩
    refine wpAny_mono (h5 s5 b d S5 (((v2.mono e3.tup).mono e4.tup).mono e5.tup) v5) ?_ fun _ _ z => z
    rintro f s6 ⟨z'', σ6, h6, v6, S6, e6⟩
    exact wpAny_mono (h6 s6 f S6 v6) (fun _ _ z => TP.after z ((e14.trans e5).trans e6)) fun _ _ z => z

/- ints -/
theorem BinWP.add_int {a b : Int} {Q : V → Store → Prop} (h : Q (.int (a + b)) σ) : BinWP C A .Add (.int a) (.int b) σ Q X := by
  rintro s _ _ S ⟨⟩ ⟨⟩; exact PySem.P.add_int (EP.pureT S h (.int _ _))
theorem BinWP.sub_int {a b : Int} {Q : V → Store → Prop} (h : Q (.int (a - b)) σ) : BinWP C A .Sub (.int a) (.int b) σ Q X := by
  rintro s _ _ S ⟨⟩ ⟨⟩; exact PySem.P.sub_int (EP.pureT S h (.int _ _))
theorem BinWP.mul_int {a b : Int} {Q : V → Store → Prop} (h : Q (.int (a * b)) σ) (hm : IntMulOk a b) : BinWP C A .Mult (.int a) (.int b) σ Q X := by
  rintro s _ _ S ⟨⟩ ⟨⟩; exact PySem.P.mul_int (EP.pureT S h (.int _ _)) hm
theorem BinWP.fdiv_int {a b : Int} {Q : V → Store → Prop} (hb : b ≠ 0) (hs : b.natAbs < 1073741824) (h : Q (.int (a.fdiv b)) σ) : BinWP C A .FloorDiv (.int a) (.int b) σ Q X := by
  rintro s _ _ S ⟨⟩ ⟨⟩; exact PyProof.Rows.floordiv_int hb (EP.pureT S h (.int _ _)) (.inl (PyProof.noPylong_small hs))
theorem BinWP.fmod_int {a b : Int} {Q : V → Store → Prop} (hb : b ≠ 0) (h : Q (.int (a.fmod b)) σ) : BinWP C A .Mod (.int a) (.int b) σ Q X := by
  rintro s _ _ S ⟨⟩ ⟨⟩; exact PyProof.Rows.mod_int' hb (EP.pureT S h (.int _ _))
theorem UnWP.neg_int {a : Int} {Q : V → Store → Prop} (h : Q (.int (-a)) σ) : UnWP C A .USub (.int a) σ Q X := by
  rintro s _ S ⟨⟩; exact PySem.P.neg_int (EP.pureT S h (.int _ _))
theorem CmpWP.lt_int {a b : Int} {Q : V → Store → Prop} (h : Q (.bool (decide (a < b))) σ) : CmpWP C A .Lt (.int a) (.int b) σ Q X := by
  rintro s _ _ S ⟨⟩ ⟨⟩; exact PySem.P.lt_int (EP.pure S h (.bool _))
theorem CmpWP.le_int {a b : Int} {Q : V → Store → Prop} (h : Q (.bool (decide (a ≤ b))) σ) : CmpWP C A .LtE (.int a) (.int b) σ Q X := by
  rintro s _ _ S ⟨⟩ ⟨⟩; exact PySem.P.le_int (EP.pure S h (.bool _))
theorem CmpWP.gt_int {a b : Int} {Q : V → Store → Prop} (h : Q (.bool (decide (b < a))) σ) : CmpWP C A .Gt (.int a) (.int b) σ Q X := by
  rintro s _ _ S ⟨⟩ ⟨⟩; exact PySem.P.gt_int (EP.pure S h (.bool _))
theorem CmpWP.ge_int {a b : Int} {Q : V → Store → Prop} (h : Q (.bool (decide (b ≤ a))) σ) : CmpWP C A .GtE (.int a) (.int b) σ Q X := by
  rintro s _ _ S ⟨⟩ ⟨⟩; exact PySem.P.ge_int (EP.pure S h (.bool _))
theorem CmpWP.eq_int {a b : Int} {Q : V → Store → Prop} (h : Q (.bool (a == b)) σ) : CmpWP C A .Eq (.int a) (.int b) σ Q X := by
  rintro s _ _ S ⟨⟩ ⟨⟩; exact PySem.P.eq_int (EP.pure S h (.bool _))
theorem CmpWP.ne_int {a b : Int} {Q : V → Store → Prop} (h : Q (.bool (a != b)) σ) : CmpWP C A .NotEq (.int a) (.int b) σ Q X := by
  rintro s _ _ S ⟨⟩ ⟨⟩; exact PySem.P.ne_int (EP.pure S h (.bool _))
/- strs -/
theorem BinWP.add_str {a b : Str} {Q : V → Store → Prop} (h : Q (.str (a ++ b)) σ) (hs : a.length + b.length ≤ sizeLine) : BinWP C A .Add (.str a) (.str b) σ Q X := by
  rintro s _ _ S ⟨⟩ ⟨⟩; exact PyProof.Rows.add_str (fun _ _ => EP.pureT S h (.str _ _)) hs
theorem CmpWP.eq_str {a b : Str} {Q : V → Store → Prop} (h : Q (.bool (a == b)) σ) : CmpWP C A .Eq (.str a) (.str b) σ Q X := by
  rintro s _ _ S ⟨⟩ ⟨⟩; exact PyProof.Rows.eq_str (EP.pure S h (.bool _))
theorem CmpWP.ne_str {a b : Str} {Q : V → Store → Prop} (h : Q (.bool (a != b)) σ) : CmpWP C A .NotEq (.str a) (.str b) σ Q X := by
  rintro s _ _ S ⟨⟩ ⟨⟩; exact PyProof.Rows.ne_str (EP.pure S h (.bool _))
/- truth -/
theorem TruWP.bool {b : Bool} {Q : Bool → Store → Prop} (h : Q b σ) : TruWP C A (.bool b) σ Q X := by
  rintro s _ S ⟨⟩; exact wpAny_truthy_bool (TP.pure S h)
end

end Mine

set_option autoImplicit false
set_option linter.unusedVariables false
namespace Mine
open PySem PySem.W

section
variable {C : Cx} {A : Around} {env : Env} {ρ : Rho} {σ : Store} {X : XP} {s : Shared}

theorem tupKeep_sameBut {h h' : Heap} {a : Addr} (hs : Heap.SameBut a h h') (hn : ∀ o, h.get? a = some o → ¬ Imm o) : TupKeep h h' := fun b o i e => by
  by_cases q : b = a
  · subst q; exact absurd i (hn _ e)
  · exact (hs.2 b q).trans e
theorem Rep.notTup {h : Heap} {a : Addr} {o : O} (r : Rep C h a o) : ∀ o, h.get? a = some o → ¬ Imm o := fun o e => by
  obtain ⟨x, hx, h1⟩ := r.isSome
  rw [hx] at e; cases e; exact h1

theorem St.ne_of {a b : Addr} {o : O} (S : St C σ s) (ha : σ a = some o) (hb : σ b = none) : b ≠ a := fun e => by rw [e, ha] at hb; cases hb

theorem St.set {o o' : O} {a : Addr} {h' : Heap} {t : Nat} (S : St C σ s) (ha : σ a = some o) (hb : Heap.SameBut a s.heap h') (r : Rep C h' a o') :
    St C (σ.upd a o') { s with heap := h', toks := t } ∧ Evo σ s.heap (σ.upd a o') h' := by
  have tk : TupKeep s.heap h' := tupKeep_sameBut hb (S.rep a o ha).notTup
  refine ⟨⟨fun b x e => ?_, fun b x e => ?_, fun b x e => ?_, S.gens, S.os⟩, fun b x e n => ?_, fun b x e => ?_, fun b x e => ?_, tk⟩
  · have : b ≠ a := fun q => by
      subst q
      rw [(S.above b o ha).1] at e; cases e
    exact (hb.2 b this).trans (S.base b x e)
  · by_cases q : b = a
    · subst q; rw [Store.upd_self] at e; cases e; exact r
    · rw [Store.upd_ne _ _ q] at e
      exact (S.rep b x e).at (fun y hy => (hb.2 b q).trans hy) tk
  · by_cases q : b = a
    · subst q; exact S.above b o ha
    · rw [Store.upd_ne _ _ q] at e; exact S.above b x e
  · exact .inl ((hb.2 b (S.ne_of ha n)).trans e)
  · left
    by_cases q : b = a
    · subst q; exact ⟨_, ha⟩
    · rw [Store.upd_ne _ _ q] at e; exact ⟨_, e⟩
  · by_cases q : b = a
    · subst q; exact ⟨_, Store.upd_self ..⟩
    · exact ⟨x, by rw [Store.upd_ne _ _ q]; exact e⟩

theorem St.fresh (S : St C σ s) : σ s.heap.objs.size = none := by
  cases q : σ s.heap.objs.size with
  | none => rfl
  | some o =>
    obtain ⟨x, hx, _⟩ := (S.rep _ _ q).isSome
    exact absurd (Heap.lt_size hx) (Nat.lt_irrefl _)

theorem get?_fresh (h : Heap) : h.get? h.objs.size = none := by
  cases q : h.get? h.objs.size with
  | none => rfl
  | some o => exact absurd (Heap.lt_size q) (Nat.lt_irrefl _)

theorem Evo.ext {h h' : Heap} (k : ∀ b o, h.get? b = some o → h'.get? b = some o) : Evo σ h σ h' :=
  ⟨fun b o e _ => .inl (k b o e), fun b o e => .inl ⟨o, e⟩, fun b o e => ⟨o, e⟩, fun a o i e => k _ _ e⟩
theorem St.ext {h' : Heap} {t : Nat} (S : St C σ s) (k : ∀ b o, s.heap.get? b = some o → h'.get? b = some o) : St C σ { s with heap := h', toks := t } :=
  ⟨fun b o e => k _ _ (S.base b o e), fun a o e => (S.rep a o e).at (fun x hx => k _ _ hx) fun _ _ _ e => k _ _ e, S.above, S.gens, S.os⟩

theorem push_size (h : Heap) (x : Obj) : (h.push x).objs.size = h.objs.size + 1 := by
  obtain ⟨o, l⟩ := h; simp [Heap.push]

theorem St.baseFresh {a : Addr} (S : St C σ s) (h : C.n₀ ≤ a) : C.h₀.get? a = none := by
  cases q : C.h₀.get? a with
  | none => rfl
  | some o => exact absurd (C.low _ _ q) (Nat.not_lt.mpr h)
theorem St.new {x : Obj} {o : O} {t : Nat} (S : St C σ s) (r : Rep C (s.heap.push x) s.heap.objs.size o) :
    St C (σ.upd s.heap.objs.size o) { s with heap := s.heap.push x, toks := t } ∧ Evo σ s.heap (σ.upd s.heap.objs.size o) (s.heap.push x) := by
  have k : ∀ b y, s.heap.get? b = some y → (s.heap.push x).get? b = some y := fun b y e => Heap.get?_push_of_some _ e
  have S' := S.ext (t := t) k
  refine ⟨⟨S'.base, fun b y e => ?_, fun b y e => ?_, S'.gens, S'.os⟩, fun b y e n => .inl (k b y e), fun b y e => ?_, fun b y e => ?_, fun a o i e => k _ _ e⟩
  · by_cases q : b = s.heap.objs.size
    · subst q; rw [Store.upd_self] at e; cases e; exact r
    · rw [Store.upd_ne _ _ q] at e; exact S'.rep b y e
  · by_cases q : b = s.heap.objs.size
    · subst q; exact ⟨S.baseFresh S.size, .inl S.size⟩
    · rw [Store.upd_ne _ _ q] at e; exact S.above b y e
  · by_cases q : b = s.heap.objs.size
    · subst q; exact .inr (get?_fresh _)
    · rw [Store.upd_ne _ _ q] at e; exact .inl ⟨_, e⟩
  · by_cases q : b = s.heap.objs.size
    · subst q; exact ⟨_, Store.upd_self ..⟩
    · exact ⟨y, by rw [Store.upd_ne _ _ q]; exact e⟩

theorem St.push {x : Obj} {t : Nat} (S : St C σ s) : St C σ { s with heap := s.heap.push x, toks := t } :=
  S.ext (fun b y e => Heap.get?_push_of_some _ e)
theorem Evo.push {h : Heap} {x : Obj} : Evo σ h σ (h.push x) := .ext fun b y e => Heap.get?_push_of_some _ e

/- argument lists, displays -/
inductive AP (C : Cx) (σ : Store) (h : Heap) (Q : List V → Store → Prop) (vs : List Value) (s' : Shared) : Prop
  | mk (xs : List V) (σ' : Store) (q : Q xs σ') (r : VRs s'.heap vs xs) (S : St C σ' s') (e : Evo σ h σ' s'.heap) : AP C σ h Q vs s'
def Ags (C : Cx) (A : Around) (env : Env) (pos : Pos) (es : List Expr) (ρ : Rho) (σ : Store) (Q : List V → Store → Prop) (X : XP) : Prop :=
  ∀ s, St C σ s → Fm C σ s.heap env ρ → wpAny C.M A (spliced (backTo pos (starEach es env))) (AP C σ s.heap Q) X s
theorem Ags.nil {pos : Pos} {Q : List V → Store → Prop} (h : Q [] σ) : Ags C A env pos [] ρ σ Q X :=
  fun s S F => wpAny_items_nil ⟨[], σ, h, .nil, S, .refl ..⟩
theorem Ags.cons {pos : Pos} {e : Expr} {es : List Expr} {Q : List V → Store → Prop}
    (h : Ev C A env e ρ σ (fun x σ1 => Ags C A env pos es ρ σ1 (fun xs σ2 => Q (x :: xs) σ2) X) X)
    (he : starEach (e :: es) env = (false, eval e env) :: starEach es env := by kernel_rfl) : Ags C A env pos (e :: es) ρ σ Q X := by
  intro s S F
  refine wpAny_items_cons (wpAny_mono (h s S F) ?_ fun _ _ z => z) he
  rintro v s1 ⟨x, σ1, h1, r1, S1, e1⟩
  refine wpAny_mono (h1 s1 S1 (F.evo e1)) ?_ fun _ _ z => z
  rintro vs s2 ⟨xs, σ2, h2, r2, S2, e2⟩
  exact ⟨x :: xs, σ2, h2, .cons (r1.mono e2.tup) r2, S2, e1.trans e2⟩

theorem VRs.push {h : Heap} {x : Obj} {vs : List Value} {xs : List V} (r : VRs h vs xs) : VRs (h.push x) vs xs := r.mono fun _ _ _ e => Heap.get?_push_of_some _ e

theorem Ev.tuple {es : List Expr} {k : Nat} {pos : Pos} {Q : V → Store → Prop} (h : Ags C A env pos es ρ σ (fun xs σ1 => xs.length ≤ sizeLine ∧ Q (.tup xs) σ1) X) :
    Ev C A env (.Tuple es k pos) ρ σ Q X := by
  intro s S F
  refine wpAny_Tuple (wpAny_mono (h s S F) ?_ fun _ _ z => z)
  rintro vs s1 ⟨xs, σ1, ⟨hz, q⟩, r1, S1, e1⟩
  refine ⟨by rw [r1.length]; exact hz, .tup xs, σ1, q, .tup (n := 0) (Heap.get?_push_size _ rfl) (by simpa using r1.push), S1.push, e1.trans .push⟩

theorem rep_list_push {h : Heap} {vs : List Value} {xs : List V} (r : VRs h vs xs) : Rep C (h.push { cls := .type "list", data := .seq vs.toArray }) h.objs.size (.list xs) :=
  ⟨vs.toArray, ⟨0, Heap.get?_push_size _ rfl⟩, by simpa using r.push⟩

theorem Ev.list {es : List Expr} {pos : Pos} {Q : V → Store → Prop} (h : Ags C A env pos es ρ σ (fun xs σ1 => xs.length ≤ sizeLine ∧ ∀ a, σ1 a = none → Q (.ref a) (σ1.upd a (.list xs))) X) :
    Ev C A env (.List es pos) ρ σ Q X := by
  intro s S F
  refine wpAny_List (wpAny_mono (h s S F) ?_ fun _ _ z => z)
  rintro vs s1 ⟨xs, σ1, ⟨hz, q⟩, r1, S1, e1⟩
  obtain ⟨S2, e2⟩ := S1.new (t := s1.toks) (rep_list_push r1)
  exact ⟨by rw [r1.length]; exact hz, .ref _, _, q _ S1.fresh, .ref _, S2, e1.trans e2⟩

/- statements -/
inductive FV where
  | next | brk | cont | ret (v : V)
inductive FR (h : Heap) : Flow → FV → Prop where
  | next : FR h .next .next
  | brk : FR h .brk .brk
  | cont : FR h .cont .cont
  | ret {v : Value} {x : V} : VR h v x → FR h (.ret v) (.ret x)

def Own (env : Env) (b : Addr) : Prop := b = env.locals ∨ ∃ x, env.cells.lookup x = some b
structure EvoF (env : Env) (σ : Store) (h : Heap) (σ' : Store) (h' : Heap) : Prop where
  keep : ∀ b o, h.get? b = some o → σ b = none → ¬ Own env b → Kept h' b o
  dom : ∀ b o, σ' b = some o → (∃ o', σ b = some o') ∨ h.get? b = none
  mono : ∀ b o, σ b = some o → ∃ o', σ' b = some o'
  tup : TupKeep h h'
  there : ∀ b o, h.get? b = some o → Own env b → ∃ o', h'.get? b = some o'
theorem Evo.evoF {σ' : Store} {h h' : Heap} (x : Evo σ h σ' h') (hown : ∀ b, Own env b → σ b = none) : EvoF env σ h σ' h' :=
  ⟨fun b o e n _ => x.keep b o e n, x.dom, x.mono, x.tup, fun b o e w => (x.keep b o e (hown b w)).got⟩
theorem EvoF.refl (h : Heap) : EvoF env σ h σ h := ⟨fun _ _ e _ _ => .inl e, fun _ _ e => .inl ⟨_, e⟩, fun _ _ e => ⟨_, e⟩, .refl _, fun _ o e _ => ⟨o, e⟩⟩
theorem EvoF.trans {σ1 σ2 σ3 : Store} {h1 h2 h3 : Heap} (x : EvoF env σ1 h1 σ2 h2) (y : EvoF env σ2 h2 σ3 h3) : EvoF env σ1 h1 σ3 h3 := by
  refine ⟨fun b o e n w => ?_, fun b o e => ?_, fun b o e => ?_, x.tup.trans y.tup, fun b o e w => ?_⟩
  · refine (x.keep b o e n w).trans fun o' e' => y.keep b o' e' ?_ w
    cases q : σ2 b with
    | none => rfl
    | some o2 =>
      rcases x.dom b o2 q with ⟨o', e'⟩ | e'
      · rw [n] at e'; cases e'
      · rw [e] at e'; cases e'
  · rcases y.dom b o e with ⟨o', e'⟩ | e'
    · exact x.dom b o' e'
    · cases q : h1.get? b with
      | none => exact .inr rfl
      | some o1 =>
        left
        cases q' : σ1 b with
        | some o' => exact ⟨o', rfl⟩
        | none =>
          exfalso
          by_cases w : Own env b
          · obtain ⟨o', z⟩ := x.there b o1 q w
            rw [z] at e'; cases e'
          · obtain ⟨o', z⟩ := (x.keep b o1 q q' w).got
            rw [z] at e'; cases e'
  · obtain ⟨o', e'⟩ := x.mono b o e
    exact y.mono b o' e'
  · obtain ⟨o', z⟩ := x.there b o e w
    exact y.there b o' z w

theorem Fm.own {h : Heap} (F : Fm C σ h env ρ) : ∀ b, Own env b → σ b = none := by
  rintro b (rfl | ⟨x, e⟩)
  · exact F.locs
  · exact (F.ncell x b e).1

inductive SP (C : Cx) (env : Env) (σ : Store) (h : Heap) (Q : FV → Rho → Store → Prop) (f : Flow) (s' : Shared) : Prop
  | mk (g : FV) (ρ' : Rho) (σ' : Store) (q : Q g ρ' σ') (r : FR s'.heap f g) (S : St C σ' s') (F : Fm C σ' s'.heap env ρ') (e : EvoF env σ h σ' s'.heap) : SP C env σ h Q f s'
theorem SP.after {σ1 : Store} {h h1 : Heap} {Q : FV → Rho → Store → Prop} {f : Flow} {s' : Shared} (x : SP C env σ1 h1 Q f s') (k : EvoF env σ h σ1 h1) : SP C env σ h Q f s' :=
  let ⟨a, b, c, d, e, f, g, i⟩ := x; ⟨a, b, c, d, e, f, g, k.trans i⟩
theorem SP.mono {h : Heap} {Q Q' : FV → Rho → Store → Prop} {f : Flow} {s' : Shared} (x : SP C env σ h Q f s') (k : ∀ g ρ σ, Q g ρ σ → Q' g ρ σ) : SP C env σ h Q' f s' :=
  let ⟨a, b, c, d, e, f, g, i⟩ := x; ⟨a, b, c, k _ _ _ d, e, f, g, i⟩

def Ex (C : Cx) (A : Around) (env : Env) (st : Stmt) (ρ : Rho) (σ : Store) (Q : FV → Rho → Store → Prop) (X : XP) : Prop :=
  ∀ s, St C σ s → Fm C σ s.heap env ρ → wpAny C.M A (exec st env) (SP C env σ s.heap Q) X s
def Exs (C : Cx) (A : Around) (env : Env) (st : List Stmt) (ρ : Rho) (σ : Store) (Q : FV → Rho → Store → Prop) (X : XP) : Prop :=
  ∀ s, St C σ s → Fm C σ s.heap env ρ → wpAny C.M A (execs st env) (SP C env σ s.heap Q) X s

theorem Exs.mono {ss : List Stmt} {Q Q' : FV → Rho → Store → Prop} (h : Exs C A env ss ρ σ Q X) (k : ∀ g ρ σ, Q g ρ σ → Q' g ρ σ) : Exs C A env ss ρ σ Q' X :=
  fun s S F => wpAny_mono (h s S F) (fun _ _ z => z.mono k) fun _ _ z => z
theorem Ex.mono {ss : Stmt} {Q Q' : FV → Rho → Store → Prop} (h : Ex C A env ss ρ σ Q X) (k : ∀ g ρ σ, Q g ρ σ → Q' g ρ σ) : Ex C A env ss ρ σ Q' X :=
  fun s S F => wpAny_mono (h s S F) (fun _ _ z => z.mono k) fun _ _ z => z

/-- what goes on behind a statement -/
def Then (C : Cx) (A : Around) (env : Env) (ss : List Stmt) (Q : FV → Rho → Store → Prop) (X : XP) (g : FV) (ρ : Rho) (σ : Store) : Prop :=
  match g with
  | .next => Exs C A env ss ρ σ Q X
  | g => Q g ρ σ
theorem Exs.nil {Q : FV → Rho → Store → Prop} (h : Q .next ρ σ) : Exs C A env [] ρ σ Q X :=
  fun s S F => wpAny_execs_nil ⟨.next, ρ, σ, h, .next, S, F, .refl _⟩
theorem Exs.cons {st : Stmt} {ss : List Stmt} {Q : FV → Rho → Store → Prop} (h : Ex C A env st ρ σ (Then C A env ss Q X) X) : Exs C A env (st :: ss) ρ σ Q X := by
  intro s S F
  refine wpAny_execs_cons (wpAny_mono (h s S F) ?_ fun _ _ z => z)
  rintro f s1 ⟨g, ρ1, σ1, h1, r1, S1, F1, e1⟩
  cases r1 with
  | next => exact wpAny_mono (h1 s1 S1 F1) (fun _ _ z => z.after e1) fun _ _ z => z
  | brk => exact ⟨_, _, _, h1, .brk, S1, F1, e1⟩
  | cont => exact ⟨_, _, _, h1, .cont, S1, F1, e1⟩
  | ret r => exact ⟨_, _, _, h1, .ret r, S1, F1, e1⟩

theorem Ex.ret {e : Expr} {pos : Pos} {Q : FV → Rho → Store → Prop} (h : Ev C A env e ρ σ (fun x σ1 => Q (.ret x) ρ σ1) X) : Ex C A env (.Return (some e) pos) ρ σ Q X := by
  intro s S F
  refine wpAny_Return_some (wpAny_mono (h s S F) ?_ fun _ _ z => z)
  rintro v s1 ⟨x, σ1, h1, r1, S1, e1⟩
  exact ⟨_, _, _, h1, .ret r1, S1, F.evo e1, e1.evoF F.own⟩
theorem Ex.ite {t : Expr} {b1 b2 : List Stmt} {pos : Pos} {Q : FV → Rho → Store → Prop} (h : Tst C A env t ρ σ (fun b σ1 => if b then Exs C A env b1 ρ σ1 Q X else Exs C A env b2 ρ σ1 Q X) X) :
    Ex C A env (.If t b1 b2 pos) ρ σ Q X := by
  intro s S F
  refine wpAny_If (wpAny_mono (h s S F) ?_ fun _ _ z => z)
  rintro b s1 ⟨σ1, h1, S1, e1⟩
  cases b
  · exact wpAny_mono (h1 s1 S1 (F.evo e1)) (fun _ _ z => z.after (e1.evoF F.own)) fun _ _ z => z
  · exact wpAny_mono (h1 s1 S1 (F.evo e1)) (fun _ _ z => z.after (e1.evoF F.own)) fun _ _ z => z

/-- a list that stood at the call -/
def BaseL (C : Cx) (l : Addr) (xs : List V) : Prop := ∃ items, C.h₀.IsList l items ∧ VRs C.h₀ items.toList xs
/-- a list's items: of the store, or of the base -/
def LstAt (C : Cx) (σ : Store) (l : Addr) (xs : List V) : Prop := σ l = some (.list xs) ∨ BaseL C l xs


theorem LstAt.raw {l : Addr} {xs : List V} (h : LstAt C σ l xs) (S : St C σ s) : ∃ items, s.heap.IsList l items ∧ VRs s.heap items.toList xs := by
  rcases h with h | ⟨items, ⟨o, e, r⟩, h2⟩
  · obtain ⟨items, pl, r⟩ := S.rep _ _ h
    exact ⟨items, pl.isList, r⟩
  · exact ⟨items, ⟨o, S.base _ _ e, r⟩, h2.mono fun _ _ _ e => S.base _ _ e⟩

end

end Mine

set_option autoImplicit false
set_option linter.unusedVariables false
namespace Mine
open PySem PySem.W

section
variable {C : Cx} {A : Around} {env : Env} {ρ : Rho} {σ : Store} {X : XP} {s : Shared}

/-- a statement's value thrown away -/
theorem Ex.expr {e : Expr} {pos : Pos} {Q : FV → Rho → Store → Prop} (h : Ev C A env e ρ σ (fun x σ1 => Q .next ρ σ1) X)
    (hi : interactive env = false := by kernel_rfl) (hs : swapsWith e none pos.line env = pure false := by kernel_rfl) : Ex C A env (.Expr e pos) ρ σ Q X := by
  intro s S F
  refine wpAny_Expr_any (wpAny_mono (h s S F) ?_ fun _ _ z => z) hi hs
  rintro v s1 ⟨x, σ1, h1, r1, S1, e1⟩
  exact ⟨_, _, _, h1, .next, S1, F.evo e1, e1.evoF F.own⟩

/- assigning -/
def Asg (C : Cx) (A : Around) (env : Env) (t : Expr) (x : V) (ρ : Rho) (σ : Store) (Q : Rho → Store → Prop) (X : XP) : Prop :=
  ∀ s v, St C σ s → Fm C σ s.heap env ρ → VR s.heap v x → wpAny C.M A (assign t env v) (fun _ s' => ∃ ρ' σ', Q ρ' σ' ∧ St C σ' s' ∧ Fm C σ' s'.heap env ρ' ∧ EvoF env σ s.heap σ' s'.heap) X s

theorem Fm.storeLocal {h h' : Heap} {x : Str} {v : Value} {y : V} {m : Str → Option Value} {t : Nat} (S : St C σ s) (F : Fm C σ s.heap env ρ) (hk : env.kindOf x = some .local)
    (hm : s.heap.Ns env.locals m) (f : ∀ x v, env.kindOf x = some .local → ρ.get x = some v → ∃ u, m x = some u ∧ VR s.heap u v)
    (hn : h'.Ns env.locals (fun z => if z = x then some v else m z)) (hs : Heap.SameBut env.locals s.heap h') (r : VR s.heap v y)
    (hc : env.cells.lookup x = none) :
    St C σ { s with heap := h', toks := t } ∧ Fm C σ h' env (ρ.put x y) ∧ EvoF env σ s.heap σ h' := by
  have nt : ∀ o, s.heap.get? env.locals = some o → ¬ Imm o := fun o e => by obtain ⟨o', es, ep, ho, hd, _⟩ := hm; rw [ho] at e; cases e; exact Imm.notDict hd
  have tk := tupKeep_sameBut hs nt
  have ne : ∀ b o, σ b = some o → b ≠ env.locals := fun b o e q => by rw [q, F.locs] at e; cases e
  refine ⟨⟨fun b o e => ?_, fun b o e => ?_, S.above, S.gens, S.os⟩, ⟨F.fn, ⟨_, hn, fun z u hz hu => ?_⟩, F.locs, F.abv, fun z c hz => ?_, F.ncell, F.apart⟩, fun b o e n w => ?_, fun b o e => .inl ⟨o, e⟩, fun b o e => ⟨o, e⟩, tk, fun b o e w => ?_⟩
  · refine (hs.2 b fun q => ?_).trans (S.base b o e)
    subst q; exact absurd (C.low _ _ e) (Nat.not_lt.mpr F.abv)
  · exact (S.rep b o e).at (fun y hy => (hs.2 b (ne b o e)).trans hy) tk
  · rw [Rho.get_put] at hu
    by_cases q : z = x
    · subst q; rw [if_pos rfl] at hu; cases hu; exact ⟨v, by simp, r.mono tk⟩
    · rw [if_neg q] at hu
      obtain ⟨a, b, d⟩ := f z u hz hu
      exact ⟨a, by simp [q, b], d.mono tk⟩
  · obtain ⟨ov, a, b⟩ := F.cell z c hz
    obtain ⟨n1, n2, n3⟩ := F.ncell z c hz
    refine ⟨ov, a.sameBut hs n2, fun u hu => ?_⟩
    rw [Rho.get_put, if_neg (fun q => by subst q; rw [hc] at hz; cases hz)] at hu
    obtain ⟨p, q1, q2⟩ := b u hu
    exact ⟨p, q1, q2.mono tk⟩
  · exact .inl ((hs.2 b fun q => w (.inl q)).trans e)
  · by_cases q : b = env.locals
    · subst q
      obtain ⟨o', _, _, ho, _⟩ := hn
      exact ⟨o', ho⟩
    · exact ⟨o, (hs.2 b q).trans e⟩

theorem Asg.loc {x : Str} {pos : Pos} {y : V} {ρ' : Rho} {Q : Rho → Store → Prop} (hk : env.kindOf x = some .local) (hc : env.cells.lookup x = none) (hp : ρ.put x y = ρ') (h : Q ρ' σ) :
    Asg C A env (.Name x pos) y ρ σ Q X := by
  intro s v S F r
  obtain ⟨m, hm, f⟩ := F.loc
  refine wpAny_assign_Name (wpAny_storeName_local hk hm (fun h' hn hs => ?_) (by rw [F.fn]; rfl))
  obtain ⟨a, b, c⟩ := Fm.storeLocal (h := s.heap) (t := s.toks + 1) S F hk hm f hn hs r hc
  exact ⟨_, _, h, a, hp ▸ b, c⟩

theorem Asg.cel {x : Str} {pos : Pos} {y : V} {c : Addr} {ρ' : Rho} {Q : Rho → Store → Prop} (hk : env.kindOf x = some .cell) (hc : env.cells.lookup x = some c) (hp : ρ.put x y = ρ') (h : Q ρ' σ) :
    Asg C A env (.Name x pos) y ρ σ Q X := by
  intro s v S F r
  obtain ⟨ov, a, b⟩ := F.cell x c hc
  obtain ⟨n1, n2, n3⟩ := F.ncell x c hc
  refine wpAny_assign_Name (wpAny_storeName_cell F.fn hk hc a (fun h' hcl hs => ?_))
  have nt : ∀ o, s.heap.get? c = some o → ¬ Imm o := fun o e => by obtain ⟨o', ho, hd⟩ := a; rw [ho] at e; cases e; exact Imm.notCell hd
  have tk := tupKeep_sameBut hs nt
  have ne : ∀ b o, σ b = some o → b ≠ c := fun b o e q => by rw [q, n1] at e; cases e
  obtain ⟨m, hm, f⟩ := F.loc
  refine ⟨ρ', σ, h, ⟨fun b o e => ?_, fun b o e => ?_, S.above, S.gens, S.os⟩, hp ▸ ⟨F.fn, ⟨m, hm.sameBut hs n2.symm, fun z u hz hu => ?_⟩, F.locs, F.abv, fun z d hz => ?_, F.ncell, F.apart⟩, fun b o e n w => ?_, fun b o e => .inl ⟨o, e⟩, fun b o e => ⟨o, e⟩, tk, fun b o e w => ?_⟩
  · refine (hs.2 b fun q => ?_).trans (S.base b o e)
    subst q; exact absurd (C.low _ _ e) (Nat.not_lt.mpr n3)
  · exact (S.rep b o e).at (fun y hy => (hs.2 b (ne b o e)).trans hy) tk
  · rw [Rho.get_put, if_neg (fun q => by subst q; rw [hk] at hz; cases hz)] at hu
    obtain ⟨a, b, d⟩ := f z u hz hu
    exact ⟨a, b, d.mono tk⟩
  · by_cases q : z = x
    · subst q
      rw [hc] at hz; cases hz
      exact ⟨some v, hcl, fun u hu => by rw [Rho.get_put, if_pos rfl] at hu; cases hu; exact ⟨v, rfl, r.mono tk⟩⟩
    · have dc : d ≠ c := fun e => q (F.apart z x d hz (e ▸ hc))
      obtain ⟨ov', a', b'⟩ := F.cell z d hz
      refine ⟨ov', a'.sameBut hs dc, fun u hu => ?_⟩
      rw [Rho.get_put, if_neg q] at hu
      obtain ⟨p, q1, q2⟩ := b' u hu
      exact ⟨p, q1, q2.mono tk⟩
  · exact .inl ((hs.2 b fun q => w (.inr ⟨x, q ▸ hc⟩)).trans e)
  · by_cases q : b = c
    · subst q
      obtain ⟨o', ho, _⟩ := hcl
      exact ⟨o', ho⟩
    · exact ⟨o, (hs.2 b q).trans e⟩

/-- one target -/
theorem Ex.assign {t value : Expr} {pos : Pos} {Q : FV → Rho → Store → Prop} (h : Ev C A env value ρ σ (fun x σ1 => Asg C A env t x ρ σ1 (fun ρ' σ' => Q .next ρ' σ') X) X)
    (hs : swapsWithSole [t] value pos.line env = pure false := by kernel_rfl) (hw : swappedStores [t] value env = pure none := by kernel_rfl)
    (ht : (assignEach [t] env).map (·.2) = [assign t env] := by kernel_rfl) : Ex C A env (.Assign [t] value pos) ρ σ Q X := by
  intro s S F
  refine wpAny_Assign_stores (wpAny_mono (h s S F) ?_ fun _ _ z => z) hs hw
  rintro v s1 ⟨x, σ1, h1, r1, S1, e1⟩
  rw [ht]
  refine wpAny_mono (h1 s1 v S1 (F.evo e1) r1) ?_ fun _ _ z => z
  rintro _ s2 ⟨ρ', σ', q, S2, F2, e2⟩
  exact ⟨_, _, _, q, .next, S2, F2, (e1.evoF F.own).trans e2⟩

/- tuple targets -/
def AsgO (C : Cx) (A : Around) (env : Env) (ts : List Expr) (xs : List V) (ρ : Rho) (σ : Store) (Q : Rho → Store → Prop) (X : XP) : Prop :=
  ∀ s vs, St C σ s → Fm C σ s.heap env ρ → VRs s.heap vs xs → wpAny C.M A (assignInOrder ((assignEach ts env).map (·.2)) vs) (fun _ s' => ∃ ρ' σ', Q ρ' σ' ∧ St C σ' s' ∧ Fm C σ' s'.heap env ρ' ∧ EvoF env σ s.heap σ' s'.heap) X s
theorem AsgO.nil {Q : Rho → Store → Prop} (h : Q ρ σ) : AsgO C A env [] [] ρ σ Q X :=
  fun s vs S F r => by cases r; exact wpAny_pure ⟨ρ, σ, h, S, F, .refl _⟩
theorem AsgO.cons {t : Expr} {ts : List Expr} {x : V} {xs : List V} {Q : Rho → Store → Prop} (h : Asg C A env t x ρ σ (fun ρ1 σ1 => AsgO C A env ts xs ρ1 σ1 Q X) X)
    (ht : (assignEach (t :: ts) env).map (·.2) = assign t env :: (assignEach ts env).map (·.2) := by kernel_rfl) : AsgO C A env (t :: ts) (x :: xs) ρ σ Q X := by
  intro s vs S F r
  cases r with
  | cons r1 r2 =>
    rw [ht]
    refine wpAny_assignInOrder_more (wpAny_mono (h s _ S F r1) ?_ fun _ _ z => z)
    rintro _ s1 ⟨ρ1, σ1, q, S1, F1, e1⟩
    refine wpAny_mono (q s1 _ S1 F1 (r2.mono e1.tup)) ?_ fun _ _ z => z
    rintro _ s2 ⟨ρ2, σ2, q2, S2, F2, e2⟩
    exact ⟨ρ2, σ2, q2, S2, F2, e1.trans e2⟩
theorem Asg.tup {ts : List Expr} {xs : List V} {k : Nat} {pos : Pos} {Q : Rho → Store → Prop} (hh : A.handled = none) (hl : ts.length = xs.length) (h : AsgO C A env ts xs ρ σ Q X)
    (hn : (assignEach ts env).length = ts.length := by kernel_rfl) (hstar : (assignEach ts env).findIdx? (·.1) = none := by kernel_rfl) : Asg C A env (.Tuple ts k pos) (.tup xs) ρ σ Q X := by
  intro s v S F r
  cases r with
  | @tup a items n _ ha hr =>
    refine wpAny_assign_Tuple hh (t := a) (items := items) ⟨_, ha, rfl, n, rfl⟩ ?_ hstar (fun h' he => ?_)
    · rw [hn, hl, ← hr.length]; simp
    · have k : ∀ b o, s.heap.get? b = some o → h'.get? b = some o := fun b o e => he b o (Nat.ne_of_lt (Heap.lt_size e)) e
      have e0 : Evo σ s.heap σ h' := .ext k
      refine wpAny_mono (h { s with heap := h' } items.toList (S.ext (t := s.toks) k) (F.evo e0) (hr.mono e0.tup)) ?_ fun _ _ z => z
      rintro _ s2 ⟨ρ2, σ2, q2, S2, F2, e2⟩
      exact ⟨ρ2, σ2, q2, S2, F2, (e0.evoF F.own).trans e2⟩
end

end Mine

set_option autoImplicit false
set_option linter.unusedVariables false
namespace Mine
open PySem PySem.W

def FV.val : FV → V
  | .ret v => v
  | _ => .none
def fval : Flow → Value
  | .ret v => v
  | _ => .none
theorem FR.val {h : Heap} {f : Flow} {g : FV} (r : FR h f g) : VR h (fval f) g.val := by
  cases r <;> first | exact .none | assumption

def CallWP (C : Cx) (A : Around) (f : Value) (args : List V) (σ : Store) (Q : V → Store → Prop) (X : XP) : Prop :=
  ∀ s vs, St C σ s → VRs s.heap vs args → wpAny C.M A (call f vs) (EP C σ s.heap Q) X s

section
variable {kindOf : Str → Option NameKind} {h : Heap}
theorem bindL_notin {x : Str} : ∀ (names : List Str) (vals : List Value) (m : Str → Option Value), x ∉ names → bindL kindOf (names.zip vals) m x = m x
  | [], _, _, _ => rfl
  | _ :: _, [], _, _ => rfl
  | n :: names, v :: vals, m, hx => by
    show bindL kindOf (names.zip vals) _ x = m x
    rw [bindL_notin names vals _ fun q => hx (.tail _ q)]
    split
    · exact if_neg fun (q : x = n) => hx (q ▸ .head _)
    · rfl
theorem bindC_notin {x : Str} : ∀ (names : List Str) (vals : List Value) (m : Str → Option Value), x ∉ names → bindC kindOf (names.zip vals) m x = m x
  | [], _, _, _ => rfl
  | _ :: _, [], _, _ => rfl
  | n :: names, v :: vals, m, hx => by
    show bindC kindOf (names.zip vals) _ x = m x
    rw [bindC_notin names vals _ fun q => hx (.tail _ q)]
    split
    · rfl
    · exact if_neg fun (q : x = n) => hx (q ▸ .head _)
theorem bindL_get {x : Str} {y : V} : ∀ (names : List Str) (vals : List Value) (args : List V) (m : Str → Option Value), VRs h vals args → names.Nodup → kindOf x = some .local →
    Rho.get (names.zip args) x = some y → ∃ u, bindL kindOf (names.zip vals) m x = some u ∧ VR h u y
  | [], _, _, _, _, _, _, e => by cases e
  | _ :: _, _, _, _, .nil, _, _, e => by cases e
  | n :: names, v :: vals, a :: args, m, .cons r rs, nd, hk, e => by
    have nd' := List.nodup_cons.mp nd
    show ∃ u, bindL kindOf (names.zip vals) _ x = some u ∧ _
    have e' : (if x = n then some a else Rho.get (names.zip args) x) = some y := e
    by_cases q : x = n
    · subst q
      rw [if_pos rfl] at e'; cases e'
      rw [bindL_notin names vals _ nd'.1, if_pos hk]
      exact ⟨v, if_pos rfl, r⟩
    · rw [if_neg q] at e'
      exact bindL_get names vals args _ rs nd'.2 hk e'
theorem bindC_get {x : Str} {y : V} : ∀ (names : List Str) (vals : List Value) (args : List V) (m : Str → Option Value), VRs h vals args → names.Nodup → kindOf x ≠ some .local →
    Rho.get (names.zip args) x = some y → ∃ u, bindC kindOf (names.zip vals) m x = some u ∧ VR h u y
  | [], _, _, _, _, _, _, e => by cases e
  | _ :: _, _, _, _, .nil, _, _, e => by cases e
  | n :: names, v :: vals, a :: args, m, .cons r rs, nd, hk, e => by
    have nd' := List.nodup_cons.mp nd
    show ∃ u, bindC kindOf (names.zip vals) _ x = some u ∧ _
    have e' : (if x = n then some a else Rho.get (names.zip args) x) = some y := e
    by_cases q : x = n
    · subst q
      rw [if_pos rfl] at e'; cases e'
      rw [bindC_notin names vals _ nd'.1, if_neg hk]
      exact ⟨v, if_pos rfl, r⟩
    · rw [if_neg q] at e'
      exact bindC_get names vals args _ rs nd'.2 hk e'
end

theorem cellsFrom_mem : ∀ (names : List (Str × NameKind)) (n : Nat) (acc : List (Str × Addr)) (x : Str) (c : Addr), (x, c) ∈ cellsFrom n names acc → (x, c) ∈ acc ∨ (x, NameKind.cell) ∈ names
  | [], _, _, _, _, h => .inl h
  | (nm, k) :: r, n, acc, x, c, h => by
    unfold cellsFrom at h
    split at h
    · rename_i hk
      rcases cellsFrom_mem r _ _ x c h with q | q
      · rcases List.mem_cons.mp q with q | q
        · cases q
          right
          rw [← beq_iff_eq.mp hk]
          exact .head _
        · exact .inl q
      · exact .inr (.tail _ q)
    · rcases cellsFrom_mem r _ _ x c h with q | q
      · exact .inl q
      · exact .inr (.tail _ q)

/-- cells of a scope are cells by its table -/
def scopeOk (scope : Scope) : Bool := scope.names.all fun p => p.2 != .cell || scope.names.lookup p.1 == some .cell

section
variable {C : Cx} {A : Around} {env : Env} {ρ : Rho} {σ : Store} {X : XP} {s : Shared}

theorem St.callee {fd : FuncData} {f : Addr} {names : List Str} {vals : List Value} {args : List V} {s₁ : Shared} (S : St C σ s) (r : VRs s.heap vals args) (nd : names.Nodup) (hk : fd.scope.kind = .function) (hsc : scopeOk fd.scope = true)
    (x : InCallC s (callEnvC fd s.heap.objs.size f).locals (bindL (callEnvC fd s.heap.objs.size f).kindOf (names.zip vals) fun _ => none) (callEnvC fd s.heap.objs.size f).cells
        (bindC (callEnvC fd s.heap.objs.size f).kindOf (names.zip vals) fun _ => none) s₁) :
    St C σ s₁ ∧ Fm C σ s₁.heap (callEnvC fd s.heap.objs.size f) (names.zip args) ∧ (∀ b o, s.heap.get? b = some o → s₁.heap.get? b = some o) := by
  obtain ⟨⟨⟨h, tk, rfl⟩, ns, keep, fr⟩, cell, apart, above⟩ := x
  have L : (callEnvC fd s.heap.objs.size f).locals = s.heap.objs.size := rfl
  have e0 : Evo σ s.heap σ h := .ext keep
  have fresh : ∀ b, s.heap.objs.size ≤ b → σ b = none := fun b hb => by
    cases q : σ b with
    | none => rfl
    | some o =>
      obtain ⟨y, hy, _⟩ := (S.rep _ _ q).isSome
      exact absurd (Heap.lt_size hy) (Nat.not_lt.mpr hb)
  have up : ∀ n c, (callEnvC fd s.heap.objs.size f).cells.lookup n = some c → s.heap.objs.size < c := fun n c hc => L ▸ above n c (mem_of_lookup hc)
  refine ⟨S.ext keep, ⟨hk, ⟨_, ns, fun y v hy hv => bindL_get names vals args _ (r.mono e0.tup) nd hy hv⟩, fresh _ (L ▸ Nat.le_refl _), L ▸ S.size, fun y c hc => ⟨_, cell y c hc, fun v hv => ?_⟩, fun y c hc => ?_, fun y z c hy hz => ?_⟩, keep⟩
  · refine bindC_get names vals args _ (r.mono e0.tup) nd ?_ hv
    rcases cellsFrom_mem _ _ _ _ _ (mem_of_lookup hc) with q | q
    · cases q
    · have := List.all_eq_true.mp hsc _ q
      intro z
      have z' : fd.scope.names.lookup y = some .local := z
      simp only [bne_self_eq_false, Bool.false_or, beq_iff_eq] at this
      rw [z'] at this; cases this
  · have := up y c hc
    exact ⟨fresh c (Nat.le_of_lt this), fun q => by rw [q, L] at this; exact Nat.lt_irrefl _ this, Nat.le_trans S.size (Nat.le_of_lt this)⟩
  · exact name_of_addr apart (mem_of_lookup hy) (mem_of_lookup hz)

theorem EP.ret {s₁ : Shared} {fd : FuncData} {f : Addr} {Q : V → Store → Prop} {fl : Flow} {s' : Shared} (S : St C σ s) (keep : ∀ b o, s.heap.get? b = some o → s₁.heap.get? b = some o)
    (hup : ∀ n c, (callEnvC fd s.heap.objs.size f).cells.lookup n = some c → s.heap.objs.size < c)
    (z : SP C (callEnvC fd s.heap.objs.size f) σ s₁.heap (fun g _ σ' => Q g.val σ') fl s') : EP C σ s.heap Q (fval fl) s' := by
  obtain ⟨g, ρ', σ', q, r, S', F', e⟩ := z
  refine ⟨g.val, σ', q, r.val, S', fun b o hb n => ?_, fun b o hb => ?_, e.mono, fun a o i h => e.tup _ _ i (keep _ _ h)⟩
  · refine e.keep b o (keep b o hb) n ?_
    have hlt := Heap.lt_size hb
    rintro (q | ⟨x, hx⟩)
    · rw [q] at hlt; exact Nat.lt_irrefl _ hlt
    · exact absurd (hup x b hx) (Nat.not_lt.mpr (Nat.le_of_lt hlt))
  · rcases e.dom b o hb with h | h
    · exact .inl h
    · right
      cases q : s.heap.get? b with
      | none => rfl
      | some y => rw [keep b y q] at h; cases h

/-- a call of a def that raises nothing -/
theorem CallWP.fn {f : Addr} {o : Obj} {fd : FuncData} {body : List Stmt} {names : List Str} {args : List V} {Q : V → Store → Prop}
    (ho : C.h₀.get? f = some o) (hd : o.data = .func fd) (hlim : C.h₀.NoLimit) (hcd : C.h₀.CodeRec fd.code fd.qualname) (hbody : fd.body = .stmts body)
    (hbind : ∀ vals : List Value, vals.length = args.length → bindArgs fd ⟨vals, []⟩ = pure (names.zip vals)) (hclo : fd.closure = []) (nd : names.Nodup)
    (hkind : ∀ x ∈ names, fd.scope.names.lookup x = some .local ∨ (fd.scope.names.lookup x = some .cell ∧ ∀ L, ((cellsFrom L fd.scope.names []).lookup x).isSome = true))
    (hroom : A.depth < recursionLimit) (hsc : scopeOk fd.scope = true) (hco : fd.scope.isCoroutine = false) (hgen : fd.scope.isGenerator = false) (hk : fd.scope.kind = .function)
    (h : ∀ L, Exs C (A.deeper (callEnvC fd L f)) (callEnvC fd L f) body (names.zip args) σ (fun g _ σ' => Q g.val σ') (fun _ _ => False)) : CallWP C A (.ref f) args σ Q X := by
  intro s vs S r
  have hk' : ∀ b o, C.h₀.get? b = some o → s.heap.get? b = some o := S.base
  refine wpAny_call (codeAny_call_cells (fd := fd) hroom (hk' _ _ ho) hd (hlim.keeps hk') (hcd.keeps hk') hbody (hbind vs r.length) hclo ?_ (fun s₁ x => ?_) hco hgen hk)
  · intro y hy
    rcases hkind y.1 (List.of_mem_zip hy).1 with q | ⟨q, q'⟩
    · exact .inl q
    · exact .inr ⟨q, q' _⟩
  · obtain ⟨S₁, F₁, keep⟩ := S.callee r nd hk hsc x
    refine wpAny_mono (h s.heap.objs.size s₁ S₁ F₁) (fun fl s' z => ?_) (fun _ _ z => z.elim)
    have y := EP.ret S keep (fun n c hc => x.above n c (mem_of_lookup hc)) z
    cases fl <;> exact y
end

end Mine

set_option autoImplicit false
set_option linter.unusedVariables false
namespace Mine
open PySem PySem.W

section
variable {C : Cx} {A : Around} {env : Env} {ρ : Rho} {σ : Store} {X : XP} {s : Shared}

theorem St.K (S : St C σ s) : C.K.In s.heap := fun a o e => S.base _ _ (C.KX a o e)
theorem VR.base {v : Value} {x : V} (r : VR C.h₀ v x) (S : St C σ s) : VR s.heap v x := r.mono fun _ _ _ e => S.base _ _ e

theorem Ev.glob {x : Str} {pos : Pos} {v : Value} {y : V} {Q : V → Store → Prop} (hk : env.kindOf x = some .globalImplicit) (e : nsIn C.K mainGlobals x = some (some v)) (r : VR C.h₀ v y) (h : Q y σ)
    (hg : env.globals = mainGlobals) (hd : (x == ("__debug__" : Str)) = false) : Ev C A env (.Name x pos) ρ σ Q X := by
  intro s S F
  refine Calls.Name_function_global F.fn hk (Calls.loadGlobal_global (mg := C.mg) ?_ (mg_of C.KX C.hg e) (EP.pure S h (r.base S))) hd
  rw [hg]; exact C.hg.keeps S.base
theorem Ev.gblt {x : Str} {pos : Pos} {v : Value} {y : V} {Q : V → Store → Prop} (hk : env.kindOf x = some .globalImplicit) (e : nsIn C.K mainGlobals x = some none) (hv : bootBuiltins x = some v) (r : VR C.h₀ v y) (h : Q y σ)
    (hn : x ≠ "__name__") (hg : env.globals = mainGlobals) (hb : env.builtins = builtinsNs) (hd : (x == ("__debug__" : Str)) = false) : Ev C A env (.Name x pos) ρ σ Q X := by
  intro s S F
  refine Calls.Name_function_global F.fn hk (Calls.loadGlobal_builtin (mg := C.mg) (mb := C.mb) ?_ (mg_none_of C.KX C.hg e) ?_ ((C.blt x hn).trans hv) (EP.pure S h (r.base S))) hd
  · rw [hg]; exact C.hg.keeps S.base
  · rw [hb]; exact C.hb.keeps S.base

/- calls -/
/-- f may be called: its keeper is plain wherever the base stands -/
def Kp (C : Cx) (f : Value) : Prop := ∀ h : Heap, (∀ b o, C.h₀.get? b = some o → h.get? b = some o) → ∃ k, (k = Keeper.frame ∨ k = Keeper.machine ∨ k = Keeper.boundFrame) ∧ Looks C.M h (keeperOf f) k
theorem Kp.ref {f : Value} (e : keepIn C.K f = true) : Kp C f := fun h k => keeps_K e h fun a o q => k _ _ (C.KX a o q)
theorem Kp.blt {i : String} : Kp C (.builtin i) := fun h k => ⟨.machine, .inr (.inl rfl), .now⟩
theorem Kp.typ {i : String} : Kp C (.type i) := fun h k => ⟨.machine, .inr (.inl rfl), .now⟩

theorem evalArgs_sp {M : Model} {E : XP} {f : Value} {Q : Args → Shared → Prop} : ∀ {trees : List (Bool × Sem Value)}, trees.any (·.1) = false → wpAny M A (spliced trees) (fun vs s' => Q ⟨vs, []⟩ s') E s → wpAny M A (evalArgs f true trees []) Q E s
  | [], _, h => by
    unfold evalArgs
    show wpAny M A (spliced [] >>= _) Q E s
    refine wpAny_bind (wpAny_mono h (fun vs s' h' => ?_) fun _ _ x => x)
    refine wpAny_holding ?_
    exact wpAny_bind (wpAny_pure (wpAny_bind (wpAny_pure (wpAny_pure h'))))
  | (false, x) :: rest, _, h => Calls.evalArgs_plain h
  | (true, x) :: rest, e, _ => by simp at e

theorem callWith_mine {pos : Pos} {f : Value} {first : List Value} {fx : List V} {args : List Expr} {Q : V → Store → Prop} (kp : Kp C f) (S : St C σ s) (F : Fm C σ s.heap env ρ) (rf : VRs s.heap first fx)
    (h : Ags C A env pos args ρ σ (fun xs σ1 => CallWP C A f (fx ++ xs) σ1 Q X) X)
    (he : (backTo pos (starEach args env)).any (·.1) = false) :
    wpAny C.M A (callWith pos f first (backTo pos (starEach args env)) []) (EP C σ s.heap Q) X s := by
  refine callWith_of (P := fun h => ∀ b o, C.h₀.get? b = some o → h.get? b = some o) (by rw [he]; rfl) kp ?_
  refine evalArgs_sp he (wpAny_mono (h s S F) ?_ fun _ _ z => z)
  rintro vs s1 ⟨xs, σ1, q, r1, S1, e1⟩
  exact ⟨S1.base, wpAny_mono (q s1 _ S1 ((rf.mono e1.tup).append r1)) (fun _ _ z => z.after e1) fun _ _ z => z⟩

/- attributes of own instances -/
theorem dict_obj {kvs : List (Str × Value)} {h : Heap} {dx : Addr} (D : h.DictOf (strKind C.prog C.w) dx kvs) : ∃ es n, h.get? dx = some (dictOf es n) ∧ Pairs (strKind C.prog C.w) es kvs ∧ KeysOf (strKind C.prog C.w) es.toArray ∧ (kvs.map (·.1)).Nodup := by
  obtain ⟨⟨c, d, dt, sl⟩, es, ep, ho, ⟨hc, hd, hs⟩, hdt, hk, hp, hn⟩ := D
  dsimp only at hc hd hs hdt
  subst hc hd hs hdt
  exact ⟨es.toList, ep, by simpa using ho, hp, by simpa using hk, hn⟩

theorem PR.find {h : Heap} {K : Type} [DecidableEq K] {x : K} {y : V} : ∀ {kvs : List (K × Value)} {es : List (K × V)}, PR h kvs es → (es.find? fun p => decide (p.1 = x)).map (·.2) = some y → ∃ v, (kvs.find? fun p => decide (p.1 = x)).map (·.2) = some v ∧ VR h v y
  | _, _, .nil, e => by simp at e
  | _, _, .cons (k := k) r rs, e => by
    by_cases q : k = x
    · subst q
      simp only [List.find?_cons, decide_true, Option.map_some, Option.some.injEq] at e ⊢
      subst e
      exact ⟨_, rfl, r⟩
    · simp only [List.find?_cons, q, decide_false] at e ⊢
      exact PR.find rs e
theorem PR.find_none {h : Heap} {K : Type} [DecidableEq K] {x : K} : ∀ {kvs : List (K × Value)} {es : List (K × V)}, PR h kvs es → (es.find? fun p => decide (p.1 = x)) = none → (kvs.find? fun p => decide (p.1 = x)) = none
  | _, _, .nil, e => rfl
  | _, _, .cons (k := k) r rs, e => by
    by_cases q : k = x
    · subst q; simp at e
    · simp only [List.find?_cons, q, decide_false] at e ⊢
      exact PR.find_none rs e

theorem isStr_is (x : Str) (v : Value) : v.isStr x = Value.isStrOf x v := by cases v <;> rfl
theorem isStr_fun (x : Str) : (fun e : DictEntry => e.key.isStr x) = fun e => (strKind C.prog C.w).is x e.key := by
  funext e; exact isStr_is x e.key
theorem noRef_of_keys {es : List DictEntry} (hk : KeysOf (strKind C.prog C.w) es.toArray) : es.any (·.refKey) = false := by
  rw [List.any_eq_false]
  intro e he
  obtain ⟨k, q, _⟩ := hk e (by simpa using he)
  obtain ⟨t, hx⟩ := Value.isStrOf_shape q
  simp [DictEntry.refKey, hx]

theorem getL_of {kvs : List (Str × Value)} {es : List DictEntry} {x : Str} (hp : Pairs (strKind C.prog C.w) es kvs) (hk : KeysOf (strKind C.prog C.w) es.toArray) : getL x es = some (valueAt kvs x) := by
  have := hp.find x
  unfold getL
  rw [isStr_fun (C := C)]
  cases q : es.find? fun e => (strKind C.prog C.w).is x e.key with
  | some e => rw [q] at this; simpa using this
  | none =>
    rw [q] at this
    dsimp only
    rw [noRef_of_keys hk, ← this]
    rfl

def sget (es : List (Str × V)) (x : Str) : Option V := (es.find? fun p => decide (p.1 = x)).map (·.2)

theorem Ev.attr {o : Expr} {name : Str} {pos : Pos} {Q : V → Store → Prop}
    (h : Ev C A env o ρ σ (fun x σ1 => ∃ a c dx es y attr, x = .ref a ∧ σ1 a = some (.inst c dx) ∧ σ1 dx = some (.sd es) ∧ sget es name = some y ∧ plainGet C.K c name = true ∧ hasDictIn C.K c = true ∧
      findIn C.K (.ref c) name = some attr ∧ noGet C.K attr = true ∧ (∀ i, y ≠ .blt i) ∧ Q y σ1) X)
    (hbase : attributeBase o name env (eval o env) = eval o env := by kernel_rfl) : Ev C A env (.Attribute o name pos) ρ σ Q X := by
  intro s S F
  rw [arm_eval_Attribute, hbase]
  refine wpAny_bind (wpAny_mono (h s S F) ?_ fun _ _ z => z)
  rintro v s1 ⟨x, σ1, ⟨a, c, dx, es, y, attr, rfl, ha, hdx, hy, k1, k2, k3, k4, k5, q⟩, r1, S1, e1⟩
  cases r1
  have I0 := S1.rep _ _ ha
  obtain ⟨kvs, D, pr⟩ := S1.rep _ _ hdx
  obtain ⟨des, n, hd, hp, hk, hn⟩ := dict_obj D
  obtain ⟨u, hu, ru⟩ := pr.find (x := name) (y := y) hy
  have hv : handedIn u = true := by
    cases ru <;> try rfl
    exact absurd rfl (k5 _)
  refine wpAny_bind (wpAny_standAt (wpAny_bind (wpAny_holding ?_)))
  refine get_value S1.K ⟨I0, rfl, rfl, hd⟩ (plainGet_of k1).1 (findObj_own k2 k3 k4 ?_) hv ?_
  · rw [lookIn_dict, getL_of hp hk]; exact congrArg some hu
  · refine wpAny_bind (wpAny_letTemporaryGo (wpAny_pure ?_))
    exact ⟨y, σ1, q, ru, S1.toks _, e1⟩
end

end Mine

set_option autoImplicit false
set_option linter.unusedVariables false
namespace Mine
open PySem PySem.W

/-- str-keyed store -/
def sput : List (Str × V) → Str → V → List (Str × V)
  | [], x, v => [(x, v)]
  | (y, u) :: r, x, v => if x = y then (x, v) :: r else (y, u) :: sput r x v

section
variable {C : Cx} {A : Around} {env : Env} {ρ : Rho} {σ : Store} {X : XP} {s : Shared}

theorem PR.length {K : Type} {h : Heap} : ∀ {a : List (K × Value)} {b : List (K × V)}, PR h a b → a.length = b.length
  | _, _, .nil => rfl
  | _, _, .cons _ y => congrArg (· + 1) (PR.length y)
theorem stored_cons {K : Type} [DecidableEq K] {k x : K} {u v : Value} {r : List (K × Value)} (hn : (((k, u) :: r).map (·.1)).Nodup) :
    stored ((k, u) :: r) x v = if x = k then (x, v) :: r else (k, u) :: stored r x v := by
  by_cases q : x = k
  · subst q
    have : x ∉ r.map (·.1) := (List.nodup_cons.mp hn).1
    simp only [stored, List.any_cons, decide_true, Bool.true_or, if_true, List.map_cons]
    rw [map_store_of_not_mem r x v this]
  · have q' : ¬ k = x := fun e => q e.symm
    simp only [stored, List.any_cons, q', decide_false, Bool.false_or, List.map_cons, if_false, q]
    split <;> rfl

theorem PR.stored {h : Heap} {x : Str} {v : Value} {y : V} (r : VR h v y) : ∀ {kvs : List (Str × Value)} {es : List (Str × V)}, PR h kvs es → (kvs.map (·.1)).Nodup → PR h (stored kvs x v) (sput es x y)
  | _, _, .nil, _ => by
    show PR h (PySem.stored [] x v) [(x, y)]
    simp only [PySem.stored, List.any_nil, Bool.false_eq_true, if_false, List.nil_append]
    exact .cons r .nil
  | _, _, .cons (k := k) a b, hn => by
    rw [stored_cons hn]
    unfold sput
    by_cases q : x = k
    · rw [if_pos q, if_pos q]; exact .cons r b
    · rw [if_neg q, if_neg q]; exact .cons a (PR.stored r b (List.nodup_cons.mp hn).2)

theorem putName_dict {h : Heap} {d : Addr} {kvs : List (Str × Value)} {name : Str} {v : Value} {t : Tok} (D : h.DictOf (strKind C.prog C.w) d kvs) :
    ∃ es n, (h.update d (Obj.putName name (hashStr C.w name) (.str name t) v)).get? d = some (dictOf es n) ∧ es.length ≤ kvs.length + 1 ∧
    (h.update d (Obj.putName name (hashStr C.w name) (.str name t) v)).DictOf (strKind C.prog C.w) d (stored kvs name v) := by
  obtain ⟨⟨c, dd, dt, sl⟩, es, ep, ho, ⟨hc, hd, hs⟩, hdt, hk, hp, hn⟩ := D
  dsimp only at hc hd hs hdt
  subst hc hd hs hdt
  have hkey : (strKind C.prog C.w).is name (.str name t) = true := by show (name == name) = true; simp
  have hidx : (es.findIdx? fun e => (strKind C.prog C.w).is name e.key) = kvs.findIdx? fun kv => decide (kv.1 = name) := by
    rw [← hp.findIdx name]; obtain ⟨l⟩ := es; simp
  have hlen := hp.length
  have e0 : (es.findIdx? fun e => e.key.isStr name) = es.findIdx? fun e => (strKind C.prog C.w).is name e.key := by rw [isStr_fun (C := C)]
  cases hi : es.findIdx? fun e => (strKind C.prog C.w).is name e.key with
  | some i =>
    have e1 : Obj.putName name (hashStr C.w name) (.str name t) v ⟨.type "dict", none, .dict es ep, #[]⟩ = dictOf (es.modify i fun e => { e with val := v }).toList ep := by
      rw [Obj.putName_eq]; unfold Obj.putNameByArray; dsimp only; rw [e0, hi]
    have g : (h.update d (Obj.putName name (hashStr C.w name) (.str name t) v)).get? d = some (dictOf (es.modify i fun e => { e with val := v }).toList ep) := by
      rw [Heap.get?_update_self _ ho (by rw [e1]; rfl), e1]
    refine ⟨_, _, g, by simp at hlen ⊢; (first | lia | omega), _, _, ep, g, ⟨rfl, rfl, rfl⟩, rfl, by rw [Array.toArray_toList]; exact hk.modify i v, ?_, ?_⟩
    · rw [stored, if_pos (any_of_findIdx_some (hidx ▸ hi))]
      have hl : (es.toList.findIdx? fun e => (strKind C.prog C.w).is name e.key) = some i := by rw [← hi]; obtain ⟨l⟩ := es; simp
      have := hp.modify hn hl v
      obtain ⟨l⟩ := es
      simpa using this
    · rw [stored, if_pos (any_of_findIdx_some (hidx ▸ hi)), keys_map_store]; exact hn
  | none =>
    have hnot : name ∉ kvs.map (·.1) := not_mem_of_findIdx_none (hidx ▸ hi)
    have hany : ¬ (kvs.any fun kv => decide (kv.1 = name)) = true := by
      rw [List.any_eq_true]; rintro ⟨kv, hkv, he⟩
      exact hnot (List.mem_map.mpr ⟨kv, hkv, of_decide_eq_true he⟩)
    have e1 : Obj.putName name (hashStr C.w name) (.str name t) v ⟨.type "dict", none, .dict es ep, #[]⟩ = dictOf (es.push ⟨hashStr C.w name, .str name t, v⟩).toList (ep + 1) := by
      rw [Obj.putName_eq]; unfold Obj.putNameByArray; dsimp only; rw [e0, hi]
    have g : (h.update d (Obj.putName name (hashStr C.w name) (.str name t) v)).get? d = some (dictOf (es.push ⟨hashStr C.w name, .str name t, v⟩).toList (ep + 1)) := by
      rw [Heap.get?_update_self _ ho (by rw [e1]; rfl), e1]
    refine ⟨_, _, g, by simp at hlen ⊢; (first | lia | omega), _, _, ep + 1, g, ⟨rfl, rfl, rfl⟩, rfl, by rw [Array.toArray_toList]; exact hk.push hkey v, ?_, ?_⟩
    · rw [stored, if_neg hany]
      have := hp.append hkey (hashStr C.w name) v
      obtain ⟨l⟩ := es
      simpa using this
    · rw [stored, if_neg hany, List.map_append, List.nodup_append]
      refine ⟨hn, by simp, ?_⟩
      intro a ha b hb
      simp only [List.map_cons, List.map_nil, List.mem_singleton] at hb
      subst hb
      exact fun e => hnot (e ▸ ha)

theorem setAttr_mine {x c dx : Addr} {kvs : List (Str × Value)} {name : Str} {v : Value} {E : XP} {Q : Unit → Shared → Prop} (KX : C.K.In s.heap) (hx : s.heap.get? x = some (instO c dx)) (D : s.heap.DictOf (strKind C.prog C.w) dx kvs)
    (hs : findIn C.K (.ref c) "__setattr__" = some (some (.builtin "object.__setattr__"))) (hp : plainOver C.K c = true) (ht : takerIn C.K c name = some none) (hh : hasDictIn C.K c = true) (hz : kvs.length ≤ 1000)
    (h : ∀ h', h'.DictOf (strKind C.prog C.w) dx (stored kvs name v) → Heap.SameBut dx s.heap h' → Q () { s with heap := h', toks := s.toks + 1 + 1 }) : wpAny C.M A (setAttr (.ref x) name v) Q E s := by
  obtain ⟨es, n, hd, hpr, hk, hn⟩ := dict_obj D
  have I : InstAt s.heap x (instO c dx) c (some (dictOf es n)) := ⟨hx, rfl, rfl, hd⟩
  refine set_plain KX I hs (osa_open (s := { s with toks := s.toks + 1 }) KX I hp ht fun b => ?_)
  obtain ⟨cd, hc, hd'⟩ := any_some hh
  refine wpAny_bind (wpAny_pure (wpAny_bind (wpAny_bind (wpAny_loadPart (s := { s with toks := s.toks + 1 }) hx (wpAny_bind (Looks.here (s := { s with toks := s.toks + 1 }) (looks_clsIn KX hc) ?_))))))
  rw [hd']
  refine wpAny_pure (a := some dx) (wpAny_bind (wpAny_pure (wpAny_bind ?_)))
  unfold nsSet
  refine wpAny_bind (wpAny_bind (wpAny_askSetting (wpAny_pure (wpAny_bind (wpAny_mkText (wpAny_bind (wpAny_loadPart (s := { s with toks := s.toks + 1 + 1 }) hd ?_)))))))
  have cc : (!es.toArray.any (·.key.isStr name) && es.toArray.any (·.refKey)) = false := by
    rw [← Array.any_toList, ← Array.any_toList]
    simp only [noRef_of_keys hk, Bool.and_false]
  dsimp only
  rw [aRefKeyMayBeTheName_at, cc]
  obtain ⟨es', n', g, hl, D'⟩ := putName_dict (name := name) (v := v) (t := s.toks + 1) D
  refine wpAny_updatePart (s := { s with toks := s.toks + 1 + 1 }) hd ?_
  refine wpAny_bind (wpAny_lookBehind g (pastItsLine_dict (by rw [List.size_toArray, sizeLine_eq]; (first | lia | omega))) ?_)
  exact wpAny_pure (h _ D' (Heap.SameBut.update ..))

theorem Asg.attr {o : Expr} {name : Str} {pos : Pos} {y : V} {Q : Rho → Store → Prop}
    (h : Ev C A env o ρ σ (fun x σ1 => ∃ a c dx es, x = .ref a ∧ σ1 a = some (.inst c dx) ∧ σ1 dx = some (.sd es) ∧ es.length ≤ 1000 ∧
      findIn C.K (.ref c) "__setattr__" = some (some (.builtin "object.__setattr__")) ∧ plainOver C.K c = true ∧ takerIn C.K c name = some none ∧ hasDictIn C.K c = true ∧ Q ρ (σ1.upd dx (.sd (sput es name y)))) X) :
    Asg C A env (.Attribute o name pos) y ρ σ Q X := by
  intro s v S F r
  rw [assign_Attribute]
  refine wpAny_bind (wpAny_holding (wpAny_mono (h s S F) ?_ fun _ _ z => z))
  rintro ov s1 ⟨x, σ1, ⟨a, c, dx, es, rfl, ha, hdx, hz, k1, k2, k3, k4, q⟩, r1, S1, e1⟩
  cases r1
  have I0 := S1.rep _ _ ha
  have hdx' := S1.rep _ _ hdx
  obtain ⟨kvs, D, pr⟩ := hdx'
  have hl : kvs.length = es.length := pr.length
  have hnd : (kvs.map (·.1)).Nodup := by obtain ⟨_, _, _, _, _, _, _, _, hn⟩ := D; exact hn
  refine wpAny_bind (wpAny_standAt (wpAny_bind (wpAny_holding (setAttr_mine S1.K I0 D k1 k2 k3 k4 (by (first | lia | omega)) fun h' D' sb => ?_))))
  refine PyProof.Rows.wpAny_release' ?_
  have tk : TupKeep s1.heap h' := tupKeep_sameBut sb (S1.rep _ _ hdx).notTup
  obtain ⟨S2, e2⟩ := S1.set (t := s1.toks + 1 + 1) (o' := .sd (sput es name y)) hdx sb ⟨_, D', PR.stored ((r.mono e1.tup).mono tk) (pr.mono tk) hnd⟩
  exact ⟨ρ, _, q, S2, (F.evo e1).evo e2, (e1.trans e2).evoF F.own⟩

/- a method of an own object -/

theorem Ev.meth {o : Expr} {name : Str} {apos pos : Pos} {args : List Expr} {Q : V → Store → Prop} {pl : Sem Bool}
    (h : Ev C A env o ρ σ (fun x σ1 => ∃ a c dx es f, x = .ref a ∧ σ1 a = some (.inst c dx) ∧ σ1 dx = some (.sd es) ∧ sget es name = none ∧ plainGet C.K c name = true ∧
      findIn C.K (.ref c) name = some (some (.ref f)) ∧ isFn C.K (.ref f) = true ∧ keepIn C.K (.ref f) = true ∧ Ags C A env pos args ρ σ1 (fun xs σ2 => CallWP C A (.ref f) (.ref a :: xs) σ2 Q X) X) X)
    (he : eval (.Call (.Attribute o name apos) args [] pos) env = (do
      let ov ← eval o env
      standAt apos.atName
      let (f, first) ← holding [ov] (getMethod ov name pl)
      callWith pos f first (backTo pos (starEach args env)) (backToKw pos (keywordEach [] env))) := by kernel_rfl)
    (hst : (backTo pos (starEach args env)).any (·.1) = false := by kernel_rfl) : Ev C A env (.Call (.Attribute o name apos) args [] pos) ρ σ Q X := by
  intro s S F
  refine methodCall_KW (wpAny_mono (h s S F) ?_ fun _ _ z => z) he
  rintro ov s1 ⟨x, σ1, ⟨a, c, dx, es, f, rfl, ha, hdx, hy, k1, k2, k3, k4, q⟩, r1, S1, e1⟩
  cases r1
  have I0 := S1.rep _ _ ha
  obtain ⟨kvs, D, pr⟩ := S1.rep _ _ hdx
  obtain ⟨des, n, hd, hp, hk, hn⟩ := dict_obj D
  have hy' : (es.find? fun p => decide (p.1 = name)) = none := by
    unfold sget at hy
    cases q : es.find? fun p => decide (p.1 = name) with
    | none => rfl
    | some z => rw [q] at hy; cases hy
  have I : InstAt s1.heap a (instO c dx) c (some (dictOf des n)) := ⟨I0, rfl, rfl, hd⟩
  refine method_fn S1.K I (plainGet_of k1).1 (plainGet_of k1).2 k2 (beq_iff_eq.mp k3) ?_ ?_
  · show (lookIn name (dictOf des n)).map _ = _
    rw [lookIn_dict, getL_of hp hk]
    unfold valueAt
    rw [pr.find_none hy']; rfl
  · exact wpAny_mono (callWith_mine (first := [.ref a]) (fx := [.ref a]) (Kp.ref k4) S1 (F.evo e1) (.cons (.ref _) .nil) q hst) (fun _ _ z => z.after e1) fun _ _ z => z
end

end Mine

set_option autoImplicit false
set_option linter.unusedVariables false
namespace Mine
open PySem PySem.W

/-- an iterator: `ow` are its own objects, `J k` its state ahead of its k-th item -/
structure Itr (C : Cx) (A : Around) (target : Expr) (it : Value) (ow : Addr → Prop) (J : Nat → Heap → Prop) (ok : Store → Prop) (xs : List V) : Prop where
  frame : ∀ k h h', J k h → TupKeep h h' → (∀ b o, ow b → h.get? b = some o → h'.get? b = some o) → J k h'
  notTup : ∀ k h b o, J k h → ow b → h.get? b = some o → ¬ Imm o
  notD : ∀ k h b o, J k h → ow b → h.get? b = some o → ∀ es n, o.data ≠ .dict es n
  there : ∀ k h b, J k h → ow b → ∃ o, h.get? b = some o
  more : ∀ k σ s x (Q : Option Value → Shared → Prop) (X : XP), St C σ s → ok σ → J k s.heap → xs[k]? = some x → (∀ b, ow b → σ b = none) →
    (∀ v h' tk, VR h' v x → (∀ b o, ¬ ow b → s.heap.get? b = some o → h'.get? b = some o) → (∀ b o, ow b → h'.get? b = some o → ¬ Imm o) →
      (∀ (Q' : Unit → Shared → Prop) (X' : XP), (∀ h'' tk', J (k + 1) h'' → (∀ b o, ¬ ow b → h'.get? b = some o → h''.get? b = some o) → Q' () { s with heap := h'', toks := tk' }) →
        wpAny C.M A (letOwnedTupleGo target it v) Q' X' { s with heap := h', toks := tk }) → Q (some v) { s with heap := h', toks := tk }) → wpAny C.M A (pyNext it) Q X s
  self : ∀ k (s : Shared) (Q : Value → Shared → Prop) (X : XP), J k s.heap → Q it s → wpAny C.M A (pyIter it) Q X s
  done : ∀ k σ s (Q : Option Value → Shared → Prop) (X : XP), St C σ s → ok σ → J k s.heap → xs[k]? = none → (∀ b, ow b → σ b = none) →
    (∀ h' tk, (∀ b o, ¬ ow b → s.heap.get? b = some o → h'.get? b = some o) → Q none { s with heap := h', toks := tk }) → wpAny C.M A (pyNext it) Q X s

section
variable {C : Cx} {A : Around} {env : Env} {ρ : Rho} {σ : Store} {X : XP} {s : Shared}

theorem tk_ow {h h' : Heap} {ow : Addr → Prop} (k : ∀ b o, ¬ ow b → h.get? b = some o → h'.get? b = some o) (nt : ∀ b o, ow b → h.get? b = some o → ¬ Imm o) : TupKeep h h' :=
  fun a o i e => k a _ (fun q => nt a o q e i) e
theorem St.ow {h' : Heap} {t : Nat} {ow : Addr → Prop} (S : St C σ s) (k : ∀ b o, ¬ ow b → s.heap.get? b = some o → h'.get? b = some o) (nt : ∀ b o, ow b → s.heap.get? b = some o → ¬ Imm o)
    (no : ∀ b, ow b → σ b = none) (nb : ∀ b, ow b → C.h₀.get? b = none) : St C σ { s with heap := h', toks := t } :=
  ⟨fun b o e => k b o (fun q => by rw [nb b q] at e; cases e) (S.base b o e), fun a o e => (S.rep a o e).at (fun x hx => k a x (fun q => by rw [no a q] at e; cases e) hx) (tk_ow k nt), S.above, S.gens, S.os⟩
theorem Fm.ow {h h' : Heap} {ow : Addr → Prop} (F : Fm C σ h env ρ) (k : ∀ b o, ¬ ow b → h.get? b = some o → h'.get? b = some o) (nt : ∀ b o, ow b → h.get? b = some o → ¬ Imm o) (no : ∀ b, ow b → ¬ Own env b) : Fm C σ h' env ρ := by
  obtain ⟨f1, ⟨m, hm, f2⟩, f3, f5, f6, f7, f8⟩ := F
  have tk := tk_ow k nt
  obtain ⟨o, es, ep, ho, rest⟩ := hm
  refine ⟨f1, ⟨m, ⟨o, es, ep, k _ _ (fun q => no _ q (.inl rfl)) ho, rest⟩, fun x v hx hv => ?_⟩, f3, f5, fun x c hc => ?_, f7, f8⟩
  · obtain ⟨u, a, b⟩ := f2 x v hx hv
    exact ⟨u, a, b.mono tk⟩
  · obtain ⟨ov, a, b⟩ := f6 x c hc
    refine ⟨ov, isCell_at a fun o e => k _ _ (fun q => no _ q (.inr ⟨x, hc⟩)) e, fun v hv => ?_⟩
    obtain ⟨u, p, q⟩ := b v hv
    exact ⟨u, p, q.mono tk⟩
theorem EvoF.ow {σ0 : Store} {h0 h h' : Heap} {ow : Addr → Prop} (e : EvoF env σ0 h0 σ h) (k : ∀ b o, ¬ ow b → h.get? b = some o → h'.get? b = some o) (fr : ∀ b, ow b → h0.get? b = none) : EvoF env σ0 h0 σ h' := by
  refine ⟨fun b o q n w => (e.keep b o q n w).trans fun o' q' => .inl (k b o' (fun z => by rw [fr b z] at q; cases q) q'), e.dom, e.mono, fun a i n q => k a _ (fun z => by rw [fr a z] at q; cases q) (e.tup a i n q), fun b o q w => ?_⟩
  obtain ⟨o', q'⟩ := e.there b o q w
  exact ⟨o', k b o' (fun z => by rw [fr b z] at q; cases q) q'⟩

/-- the turns of a for -/
theorem for_turns {target : Expr} {it : Value} {body : List Stmt} {ow : Addr → Prop} {J : Nat → Heap → Prop} {ok : Store → Prop} {xs : List V} (W : Itr C A target it ow J ok xs) {σ0 : Store} {h0 : Heap}
    (I : Nat → Rho → Store → Prop) (Q : FV → Rho → Store → Prop)
    (fr : ∀ b, ow b → h0.get? b = none) (fro : ∀ b, ow b → ¬ Own env b) (frb : ∀ b, ow b → C.h₀.get? b = none)
    (turn : ∀ k ρ σ, I k ρ σ → ok σ ∧ match xs[k]? with
      | none => Q .next ρ σ
      | some x => Asg C A env target x ρ σ (fun ρ1 σ1 => Exs C A env body ρ1 σ1 (fun g ρ2 σ2 => match g with
          | .next | .cont => I (k + 1) ρ2 σ2
          | .brk => Q .next ρ2 σ2
          | .ret v => Q (.ret v) ρ2 σ2) (fun _ _ => False)) (fun _ _ => False)) :
    ∀ m k ρ σ s, xs.length - k = m → I k ρ σ → St C σ s → Fm C σ s.heap env ρ → EvoF env σ0 h0 σ s.heap → J k s.heap → (∀ b, ow b → σ b = none) →
      codeAny C.M A (.forLoop target it body [] env) (fun r s' => match r with | .ok f => SP C env σ0 h0 Q f s' | .error _ => False) s := by
  intro m
  induction m using Nat.strongRecOn with
  | ind m ih =>
  intro k ρ σ s hm hI S F e0 hJ no
  obtain ⟨hok, tn⟩ := turn k ρ σ hI
  refine codeAny_of_tree ?_
  show wpAny C.M _ ((forTurn target it body [] env).onRaise (fun x => do noteFrame x env; theTreesLotGoes x)) _ _ s
  rw [show A.under (.forLoop target it body [] env) = A from Around.under_of_weight (by rfl)]
  refine wpAny_noted ?_
  unfold forTurn
  refine wpAny_bind (wpAny_standAt (wpAny_bind (wpAny_onRaise ?_)))
  have nt : ∀ b o, ow b → s.heap.get? b = some o → ¬ Imm o := fun b o q => W.notTup k _ b o hJ q
  cases hx : xs[k]? with
  | none =>
    rw [hx] at tn
    refine W.done k σ s _ _ S hok hJ hx no fun h' tk kp => ?_
    refine wpAny_pure ⟨rfl, codeAny_of_tree ?_⟩
    show wpAny C.M _ (do return Fin.done (← (execs [] env).onRaise (fun x => do noteFrame x env; theTreesLotGoes x))) _ _ _
    refine wpAny_bind (wpAny_noted (wpAny_execs_nil (wpAny_pure ?_)))
    exact ⟨.next, ρ, σ, tn, .next, S.ow kp nt no frb, F.ow kp nt fro, e0.ow kp fr⟩
  | some x =>
    rw [hx] at tn
    have hk : k < xs.length := by
      have := List.getElem?_eq_some_iff.mp hx
      exact this.1
    refine W.more k σ s x _ _ S hok hJ hx no fun v h' tk rv kp nt' go => ?_
    refine wpAny_bind (go _ _ fun h'' tk' J' kp' => ?_)
    have kp2 : ∀ b o, ¬ ow b → s.heap.get? b = some o → h''.get? b = some o := fun b o q e => kp' b o q (kp b o q e)
    have S2 : St C σ { s with heap := h'', toks := tk' } := S.ow kp2 nt no frb
    have F2 : Fm C σ h'' env ρ := F.ow kp2 nt fro
    have rv2 : VR h'' v x := rv.mono (tk_ow kp' nt')
    refine wpAny_bind (wpAny_mono (tn { s with heap := h'', toks := tk' } v S2 F2 rv2) ?_ fun _ _ z => z.elim)
    rintro _ s3 ⟨ρ1, σ1, q1, S3, F3, e3⟩
    refine wpAny_bind (wpAny_mono (q1 s3 S3 F3) ?_ fun _ _ z => z.elim)
    rintro f s4 ⟨g, ρ2, σ2, q2, r2, S4, F4, e4⟩
    have e04 : EvoF env σ0 h0 σ2 s4.heap := ((e0.ow kp2 fr).trans e3).trans e4
    have al2 : ∀ b, ow b → ∃ o, h''.get? b = some o := fun b q => W.there _ _ b J' q
    have e24 : EvoF env σ h'' σ2 s4.heap := e3.trans e4
    have kpo : ∀ b o, ow b → h''.get? b = some o → s4.heap.get? b = some o := fun b o q e => (e24.keep b o e (no b q) (fro b q)).exact (W.notD _ _ b o J' q e)
    have no4 : ∀ b, ow b → σ2 b = none := fun b q => by
      cases z : σ2 b with
      | none => rfl
      | some o =>
        rcases e24.dom b o z with ⟨o', e'⟩ | e'
        · rw [no b q] at e'; cases e'
        · obtain ⟨o', e2⟩ := al2 b q
          rw [e2] at e'; cases e'
    have again' : I (k + 1) ρ2 σ2 → codeAny C.M A (.forLoop target it body [] env) (fun r s' => match r with | .ok f => SP C env σ0 h0 Q f s' | .error _ => False) s4 := fun hI' =>
      ih (xs.length - (k + 1)) (by (first | lia | omega)) (k + 1) ρ2 σ2 s4 rfl hI' S4 F4 e04 (W.frame _ _ _ J' e24.tup kpo) no4
    cases r2 with
    | next => exact wpAny_pure ⟨rfl, again' q2⟩
    | cont => exact wpAny_pure ⟨rfl, again' q2⟩
    | brk => exact wpAny_pure ⟨.next, ρ2, σ2, q2, .next, S4, F4, e04⟩
    | ret r => exact wpAny_pure ⟨_, ρ2, σ2, q2, .ret r, S4, F4, e04⟩

/-- the turns, item by item -/
def ForL (C : Cx) (A : Around) (env : Env) (target : Expr) (body : List Stmt) (ok : Store → Prop) (Q : FV → Rho → Store → Prop) : List V → Rho → Store → Prop
  | [], ρ, σ => Q .next ρ σ
  | x :: xs, ρ, σ => Asg C A env target x ρ σ (fun ρ1 σ1 => Exs C A env body ρ1 σ1 (fun g ρ2 σ2 => match g with
      | .next | .cont => ok σ2 ∧ ForL C A env target body ok Q xs ρ2 σ2
      | .brk => Q .next ρ2 σ2
      | .ret v => Q (.ret v) ρ2 σ2) (fun _ _ => False)) (fun _ _ => False)

theorem for_run {target : Expr} {it : Value} {body : List Stmt} {ow : Addr → Prop} {J : Nat → Heap → Prop} {ok : Store → Prop} {xs : List V} (W : Itr C A target it ow J ok xs) {σ0 : Store} {h0 : Heap} {Q : FV → Rho → Store → Prop}
    (fr : ∀ b, ow b → h0.get? b = none) (fro : ∀ b, ow b → ¬ Own env b) (frb : ∀ b, ow b → C.h₀.get? b = none) (no : ∀ b, ow b → σ b = none)
    (S : St C σ s) (F : Fm C σ s.heap env ρ) (e0 : EvoF env σ0 h0 σ s.heap) (hJ : J 0 s.heap) (hok : ok σ) (h : ForL C A env target body ok Q xs ρ σ) :
    codeAny C.M A (.forLoop target it body [] env) (fun r s' => match r with | .ok f => SP C env σ0 h0 Q f s' | .error _ => False) s := by
  refine for_turns W (fun k ρ σ => ok σ ∧ ForL C A env target body ok Q (xs.drop k) ρ σ) Q fr fro frb (fun k ρ σ hI => ⟨hI.1, ?_⟩) _ 0 ρ σ s rfl ⟨hok, by simpa using h⟩ S F e0 hJ no
  cases hx : xs[k]? with
  | none =>
    have : xs.drop k = [] := List.drop_eq_nil_of_le (List.getElem?_eq_none_iff.mp hx)
    have h2 := hI.2
    rw [this] at h2
    exact h2
  | some x =>
    obtain ⟨hk, rfl⟩ := List.getElem?_eq_some_iff.mp hx
    have h2 := hI.2
    rw [List.drop_eq_getElem_cons hk] at h2
    exact h2

/-- no tuple of its own to let go -/
theorem letGo_plain {target : Expr} {it : Addr} {v : Value} {o : Obj} {T : String} {Q : Unit → Shared → Prop} {E : XP} (e : s.heap.get? it = some o) (hc : o.cls = .type T)
    (hT : ["enumerate", "zip", "dict_itemiterator", "dict_reverseitemiterator", "odict_iterator", "itertools.zip_longest", "itertools.pairwise"].contains T = false) (h : Q () s) : wpAny C.M A (letOwnedTupleGo target (.ref it) v) Q E s := by
  have key : ∀ (v : Value), wpAny C.M A (do
      let (.ref r, .ref a) := ((Value.ref it, v) : Value × Value) | return
      let o ← load r
      match o.cls, o.data with
      | .type n, .fields vs =>
        if ["enumerate", "zip", "dict_itemiterator", "dict_reverseitemiterator", "odict_iterator", "itertools.zip_longest", "itertools.pairwise"].contains n && vs[0]? == some (rawInt a) then
          rule "for.unpacks-the-owned-tuple"
          updateField r 0 .none
      | _, _ => pure ()) Q E s := fun v => by
    cases v <;> try exact wpAny_pure h
    refine wpAny_bind (wpAny_load e ?_)
    rw [hc]
    cases o.data <;> try exact wpAny_pure h
    simp only [hT, Bool.false_and, Bool.false_eq_true, if_false]
    exact wpAny_pure h
  cases target <;> first | exact wpAny_pure h | exact key v

/- lists -/
theorem Itr.list {target : Expr} {it l : Addr} {xs : List V} (hh : A.handled = none) (hne : it ≠ l) :
    Itr C A target (.ref it) (fun b => b = it) (fun k h => h.IsListIter it l k) (fun σ => LstAt C σ l xs) xs where
  frame := fun k h h' ⟨o, e, r⟩ _ kp => ⟨o, kp it o rfl e, r⟩
  notTup := fun k h b o' ⟨o, e, c, _⟩ q z => by subst q; rw [e] at z; cases z; exact Imm.not (by rw [c]; simp) (by rw [c]; simp) (by rw [c]; simp)
  notD := fun k h b o' ⟨o, e, c, d⟩ q z es n w => by subst q; rw [e] at z; cases z; rw [d] at w; cases w
  there := fun k h b ⟨o, e, _⟩ q => by subst q; exact ⟨o, e⟩
  more := fun k σ s x Q X S hok hJ hx no hQ => by
    obtain ⟨items, hl, hr⟩ := hok.raw S
    obtain ⟨u, hu, ru⟩ := hr.get hx
    refine wpAny_pyNext_list_item hJ hl (by simpa using hu) fun h' J' sb => ?_
    have kp : ∀ b o, ¬ b = it → s.heap.get? b = some o → h'.get? b = some o := fun b o q e => (sb.2 b q).trans e
    have tk : TupKeep s.heap h' := tk_ow (ow := fun b => b = it) kp fun b o' q => by
      subst q
      obtain ⟨o, e, c, _⟩ := hJ
      intro z; rw [e] at z; cases z; exact Imm.not (by rw [c]; simp) (by rw [c]; simp) (by rw [c]; simp)
    refine hQ u h' s.toks (ru.mono tk) kp (fun b o' q z => ?_) (fun Q' X' hq => by
      obtain ⟨o, e, c, _⟩ := id J'
      exact letGo_plain (s := { s with heap := h' }) e c (by decide) (hq h' s.toks J' fun _ _ _ e => e))
    subst q
    obtain ⟨o, e, c, _⟩ := J'
    rw [e] at z; cases z; exact Imm.not (by rw [c]; simp) (by rw [c]; simp) (by rw [c]; simp)
  self := fun k s Q X hJ hq => wpAny_pyIter_listiter hJ hq
  done := fun k σ s Q X S hok hJ hx no hQ => by
    obtain ⟨items, hl, hr⟩ := hok.raw S
    have hn : items[k]? = none := by
      have h1 := List.getElem?_eq_none_iff.mp hx
      have h2 := hr.length
      simp only [Array.length_toList] at h2
      exact Array.getElem?_eq_none_iff.mpr (by (first | lia | omega))
    exact wpAny_pyNext_list_end hh hJ hl hn fun h' kp => hQ h' s.toks fun b o q e => kp b o q e

end

end Mine

set_option autoImplicit false
set_option linter.unusedVariables false
namespace Mine
open PySem PySem.W

section
variable {C : Cx} {A : Around} {env : Env} {ρ : Rho} {σ : Store} {X : XP} {s : Shared}

theorem Evo.ow {σ0 : Store} {h0 h h' : Heap} {ow : Addr → Prop} (e : Evo σ0 h0 σ h) (k : ∀ b o, ¬ ow b → h.get? b = some o → h'.get? b = some o) (fr : ∀ b, ow b → h0.get? b = none) : Evo σ0 h0 σ h' :=
  ⟨fun b o q n => (e.keep b o q n).trans fun o' q' => .inl (k b o' (fun z => by rw [fr b z] at q; cases q) q'), e.dom, e.mono, fun a i n q => k a _ (fun z => by rw [fr a z] at q; cases q) (e.tup a i n q)⟩

theorem plain_kept {h h' : Heap} {a : Addr} {items : Array Value} (x : h.PlainList a items) (k : ∀ o, h.get? a = some o → Kept h' a o) : h'.PlainList a items := by
  obtain ⟨n, e⟩ := x
  exact ⟨n, (k _ e).exact fun es n z => (by cases z)⟩
theorem Fm.less {h : Heap} {ρ' : Rho} (F : Fm C σ h env ρ) (k : ∀ x v, ρ'.get x = some v → ρ.get x = some v) : Fm C σ h env ρ' := by
  obtain ⟨f1, ⟨m, hm, f2⟩, f3, f5, f6, f7, f8⟩ := F
  refine ⟨f1, ⟨m, hm, fun x v hx hv => f2 x v hx (k x v hv)⟩, f3, f5, fun x c hc => ?_, f7, f8⟩
  obtain ⟨ov, a, b⟩ := f6 x c hc
  exact ⟨ov, a, fun v hv => b v (k x v hv)⟩

/-- the tests of a comprehension: none, or one -/
def Ifs (C : Cx) (A : Around) (env : Env) (ifs : List Expr) (ρ : Rho) (σ : Store) (Q : Bool → Store → Prop) (X : XP) : Prop :=
  match ifs with
  | [] => Q true σ
  | [c] => Tst C A env c ρ σ Q X
  | _ => False
theorem Ifs.run {ifs : List Expr} {Q : Bool → Store → Prop} (h : Ifs C A env ifs ρ σ Q X) (S : St C σ s) (F : Fm C σ s.heap env ρ) :
    wpAny C.M A (forIn ifs true fun c r => if r = true then do let ok ← isTrue c env (eval c env); pure (ForInStep.yield ok) else pure (ForInStep.yield r)) (TP C σ s.heap Q) X s := by
  match ifs, h with
  | [], h => exact wpAny_tests_nil (TP.pure S h)
  | [c], h => exact wpAny_tests_one (h s S F)

/-- the turns of a comprehension, item by item -/
def CmpL (C : Cx) (A : Around) (env : Env) (x : Str) (ifs : List Expr) (elt : Expr) (ok : Store → Prop) (ρ : Rho) (R : List V → Store → Prop) : List V → List V → Store → Prop
  | [], out, σ => R out σ
  | y :: ys, out, σ => Ifs C A env ifs (ρ.put x y) σ (fun b σ1 =>
      if b then Ev C A env elt (ρ.put x y) σ1 (fun z σ2 => out.length ≤ sizeLine ∧ ok σ2 ∧ CmpL C A env x ifs elt ok ρ R ys (out ++ [z]) σ2) (fun _ _ => False)
      else ok σ1 ∧ CmpL C A env x ifs elt ok ρ R ys out σ1) (fun _ _ => False)

theorem comp_turns {x : Str} {px pos : Pos} {elt iter : Expr} {ifs : List Expr} {scope : Scope} {it : Value} {ow : Addr → Prop} {J : Nat → Heap → Prop} {ok : Store → Prop} {xs : List V} {acc : Addr}
    (W : Itr C A (.Name x px) it ow J ok xs) {σ0 : Store} {h0 : Heap} {R : List V → Store → Prop} {RR : Result → Shared → Prop}
    (hx : env.kindOf x = some .local) (hxc : env.cells.lookup x = none) (hxr : ρ.get x = none)
    (fr : ∀ b, ow b → h0.get? b = none) (fra : h0.get? acc = none) (frl : h0.get? env.locals = none) (frb : ∀ b, ow b → C.h₀.get? b = none) (frba : C.h₀.get? acc = none)
    (nac : ¬ ow acc) (nal : acc ≠ env.locals) (nol : ¬ ow env.locals) (noo : ∀ b, ow b → ¬ Own env b) (nao : ¬ Own env acc)
    (hR : ∀ out σ s items, R out σ → St C σ s → Evo σ0 h0 σ s.heap → s.heap.PlainList acc items → VRs s.heap items.toList out → σ acc = none → (∃ m, s.heap.Ns env.locals m) → σ env.locals = none → RR (.ok .next) s) :
    ∀ m k out σ s items, xs.length - k = m → ok σ → CmpL C A env x ifs elt ok ρ R (xs.drop k) out σ → St C σ s → Fm C σ s.heap env ρ → Evo σ0 h0 σ s.heap → J k s.heap → (∀ b, ow b → σ b = none) →
      s.heap.PlainList acc items → VRs s.heap items.toList out → σ acc = none →
      codeAny C.M A (.compLoop (.ListComp elt [⟨.Name x px, iter, ifs, 0⟩] scope pos) 0 it (.ref acc) env) RR s := by
  intro m
  induction m using Nat.strongRecOn with
  | ind m ih =>
  intro k out σ s items hm hok hL S F e0 hJ no pl rl na
  have nt : ∀ b o, ow b → s.heap.get? b = some o → ¬ Imm o := fun b o q => W.notTup k _ b o hJ q
  have dn : ∀ (σ' : Store) (h h' : Heap), Evo σ h σ' h' → ∀ b o, h.get? b = some o → σ b = none → σ' b = none := fun σ' h h' e b o q n => by
    cases z : σ' b with
    | none => rfl
    | some o2 =>
      rcases e.dom b o2 z with ⟨o', e'⟩ | e'
      · rw [n] at e'; cases e'
      · rw [q] at e'; cases e'
  refine codeAny_of_tree ?_
  show wpAny C.M _ ((compTurn (.ListComp elt [⟨.Name x px, iter, ifs, 0⟩] scope pos) 0 it (.ref acc) env).onRaise (fun x => do noteFrame x env; theTreesLotGoes x)) _ _ s
  rw [show A.under (.compLoop (.ListComp elt [⟨.Name x px, iter, ifs, 0⟩] scope pos) 0 it (.ref acc) env) = A from Around.under_of_weight (by rfl)]
  refine wpAny_noted ?_
  rw [compTurn_list]
  refine wpAny_bind (wpAny_standAt (wpAny_bind ?_))
  cases hxk : xs[k]? with
  | none =>
    have hd : xs.drop k = [] := List.drop_eq_nil_of_le (List.getElem?_eq_none_iff.mp hxk)
    rw [hd] at hL
    refine W.done k σ s _ _ S hok hJ hxk no fun h' tk kp => ?_
    refine wpAny_pure ?_
    have S' : St C σ { s with heap := h', toks := tk } := S.ow kp nt no frb
    obtain ⟨m', hm', _⟩ := (F.ow kp nt noo).loc
    exact hR out σ _ items hL S' (e0.ow kp fr) (pl.at fun o e => kp _ _ nac e) (rl.mono (tk_ow kp nt)) na ⟨m', hm'⟩ F.locs
  | some y =>
    obtain ⟨hk, rfl⟩ := List.getElem?_eq_some_iff.mp hxk
    rw [List.drop_eq_getElem_cons hk] at hL
    refine W.more k σ s _ _ _ S hok hJ hxk no fun v h' tk rv kp nt' go => ?_
    refine wpAny_bind (go _ _ fun h'' tk' J' kp' => ?_)
    have kp2 : ∀ b o, ¬ ow b → s.heap.get? b = some o → h''.get? b = some o := fun b o q e => kp' b o q (kp b o q e)
    have S2 : St C σ { s with heap := h'', toks := tk' } := S.ow kp2 nt no frb
    have F2 : Fm C σ h'' env ρ := F.ow kp2 nt noo
    have rv2 : VR h'' v xs[k] := rv.mono (tk_ow kp' nt')
    have e2 : Evo σ0 h0 σ h'' := e0.ow kp2 fr
    have pl2 : h''.PlainList acc items := pl.at fun o e => kp2 _ _ nac e
    have rl2 : VRs h'' items.toList out := rl.mono (tk_ow kp2 nt)
    obtain ⟨m0, hm0, fm0⟩ := F2.loc
    refine wpAny_bind (wpAny_assign_Name (wpAny_storeName_local (s := { s with heap := h'', toks := tk' }) hx hm0 (fun h3 hn3 hs3 => ?_) (by rw [F2.fn]; rfl)))
    obtain ⟨S3, F3, e3⟩ := Fm.storeLocal (h := h'') (t := tk' + 1) (s := { s with heap := h'', toks := tk' }) S2 F2 hx hm0 fm0 hn3 hs3 rv2 hxc
    have e03 : Evo σ0 h0 σ h3 := e2.ow (ow := fun b => b = env.locals) (fun b o q e => (hs3.2 b q).trans e) (fun b q => q ▸ frl)
    have J3 : J (k + 1) h3 := W.frame _ _ _ J' e3.tup fun b o q e => (hs3.2 b fun z => nol (z ▸ q)).trans e
    have pl3 : h3.PlainList acc items := pl2.at fun o e => (hs3.2 _ nal).trans e
    have rl3 : VRs h3 items.toList out := rl2.mono e3.tup
    have nx : ∀ (s4 : Shared) (σ4 : Store) (out' : List V) (items' : Array Value), ok σ4 → CmpL C A env x ifs elt ok ρ R (xs.drop (k + 1)) out' σ4 → St C σ4 s4 → Fm C σ4 s4.heap env (ρ.put x xs[k]) → Evo σ0 h0 σ4 s4.heap → J (k + 1) s4.heap →
        (∀ b, ow b → σ4 b = none) → s4.heap.PlainList acc items' → VRs s4.heap items'.toList out' → σ4 acc = none →
        codeAny C.M A (.compLoop (.ListComp elt [⟨.Name x px, iter, ifs, 0⟩] scope pos) 0 it (.ref acc) env) RR s4 := fun s4 σ4 out' items' hok4 hL4 S4 F4 e4 J4 no4 pl4 rl4 na4 =>
      ih (xs.length - (k + 1)) (by (first | lia | omega)) (k + 1) out' σ4 s4 items' rfl hok4 hL4 S4 (F4.less fun z u hz => by
        rw [Rho.get_put, if_neg (fun q => by rw [q, hxr] at hz; cases hz)]; exact hz) e4 J4 no4 pl4 rl4 na4
    refine wpAny_bind (wpAny_mono (Ifs.run hL S3 F3) ?_ fun _ _ z => z.elim)
    rintro b s4 ⟨σ4, q4, S4, e4⟩
    have no4 : ∀ b, ow b → σ4 b = none := fun b q => by
      obtain ⟨o', eo⟩ := W.there _ _ b J3 q
      exact dn σ4 _ _ e4 b o' eo (no b q)
    have na4 : σ4 acc = none := by obtain ⟨n, eo⟩ := pl3; exact dn σ4 _ _ e4 acc _ eo na
    have J4 : J (k + 1) s4.heap := W.frame _ _ _ J3 e4.tup fun b o q e => (e4.keep b o e (no b q)).exact (W.notD _ _ b o J3 q e)
    have pl4 : s4.heap.PlainList acc items := plain_kept pl3 fun o e => e4.keep _ _ e na
    have rl4 := rl3.mono e4.tup
    have F4 := F3.evo e4
    cases b with
    | false =>
      simp only [Bool.false_eq_true, if_false] at q4 ⊢
      exact wpAny_pure ⟨rfl, nx s4 σ4 out items q4.1 q4.2 S4 F4 (e03.trans e4) J4 no4 pl4 rl4 na4⟩
    | true =>
      simp only [if_true] at q4 ⊢
      refine wpAny_bind (wpAny_bind (wpAny_mono (q4 s4 S4 F4) ?_ fun _ _ z => z.elim))
      rintro u s5 ⟨z, σ5, ⟨hz, hok5, q5⟩, r5, S5, e5⟩
      have dn5 : ∀ b o, s4.heap.get? b = some o → σ4 b = none → σ5 b = none := fun b o q n => by
        cases z : σ5 b with
        | none => rfl
        | some o2 =>
          rcases e5.dom b o2 z with ⟨o', e'⟩ | e'
          · rw [n] at e'; cases e'
          · rw [q] at e'; cases e'
      have no5 : ∀ b, ow b → σ5 b = none := fun b q => by
        obtain ⟨o', eo⟩ := W.there _ _ b J4 q
        exact dn5 b o' eo (no4 b q)
      have na5 : σ5 acc = none := by obtain ⟨n, eo⟩ := pl4; exact dn5 acc _ eo na4
      have J5 : J (k + 1) s5.heap := W.frame _ _ _ J4 e5.tup fun b o q e => (e5.keep b o e (no4 b q)).exact (W.notD _ _ b o J4 q e)
      have pl5 : s5.heap.PlainList acc items := plain_kept pl4 fun o e => e5.keep _ _ e na4
      have rl5 := rl4.mono e5.tup
      have F5 := F4.evo e5
      refine wpAny_bind (wpAny_list_append_plain pl5 (fun h6 pl6 sb6 => ?_) (by have := rl5.length; simp only [Array.length_toList] at this; (first | lia | omega)))
      have nt6 : ∀ b o, b = acc → s5.heap.get? b = some o → ¬ Imm o := fun b o q => by
        subst q
        obtain ⟨n, eo⟩ := pl5
        intro z; rw [eo] at z; cases z; exact Imm.not (by simp) (by simp) (by simp)
      have kp6 : ∀ b o, ¬ b = acc → s5.heap.get? b = some o → h6.get? b = some o := fun b o q e => (sb6.2 b q).trans e
      have S6 : St C σ5 { s5 with heap := h6, toks := s5.toks } := S5.ow (ow := fun b => b = acc) kp6 nt6 (fun b q => q ▸ na5) (fun b q => q ▸ frba)
      have F6 : Fm C σ5 h6 env (ρ.put x xs[k]) := F5.ow (ow := fun b => b = acc) kp6 nt6 (fun b q => q ▸ nao)
      have tk6 : TupKeep s5.heap h6 := tk_ow (ow := fun b => b = acc) kp6 nt6
      refine wpAny_pure (wpAny_pure ⟨rfl, nx _ σ5 (out ++ [z]) (items.push u) hok5 q5 S6 F6 (((e03.trans e4).trans e5).ow (ow := fun b => b = acc) kp6 (fun b q => q ▸ fra)) ?_ no5 pl6 ?_ na5⟩)
      · exact W.frame _ _ _ J5 tk6 fun b o q e => kp6 b o (fun z => nac (z ▸ q)) e
      · simp only [Array.toList_push]
        exact (rl5.mono tk6).append (.cons (r5.mono tk6) .nil)
end

end Mine

set_option autoImplicit false
set_option linter.unusedVariables false
namespace Mine
open PySem PySem.W

section
variable {C : Cx} {A : Around} {env : Env} {ρ : Rho} {σ : Store} {X : XP} {s : Shared}

/-- what an iterator's making gives -/
def SrcP (C : Cx) (A : Around) (target : Expr) (σ : Store) (h : Heap) (Q : List V → (Store → Prop) → Store → Prop) (it : Value) (s2 : Shared) : Prop :=
  ∃ xs ok σ' ow J, Q xs ok σ' ∧ Itr C A target it ow J ok xs ∧ ok σ' ∧ St C σ' s2 ∧ Evo σ h σ' s2.heap ∧ (∀ b, ow b → h.get? b = none ∧ σ' b = none) ∧ J 0 s2.heap
def Src (C : Cx) (A : Around) (env : Env) (target iter : Expr) (ρ : Rho) (σ : Store) (Q : List V → (Store → Prop) → Store → Prop) (X : XP) : Prop :=
  ∀ s, St C σ s → Fm C σ s.heap env ρ → wpAny C.M A (eval iter env) (fun x s1 => wpAny C.M A (pyIter x) (SrcP C A target σ s.heap Q) X s1) X s

theorem Fm.own_there {h : Heap} (F : Fm C σ h env ρ) {b : Addr} (w : Own env b) : ∃ o, h.get? b = some o := by
  rcases w with rfl | ⟨x, e⟩
  · obtain ⟨m, ⟨o, _, _, ho, _⟩, _⟩ := F.loc
    exact ⟨o, ho⟩
  · obtain ⟨ov, ⟨o, ho, _⟩, _⟩ := F.cell x b e
    exact ⟨o, ho⟩

theorem Ex.for {target iter : Expr} {body : List Stmt} {pos : Pos} {Q : FV → Rho → Store → Prop}
    (h : Src C A env target iter ρ σ (fun xs ok σ1 => ForL C A env target body ok Q xs ρ σ1) X)
    (hs : ∀ x, foldedSetIterable iter env x = pure x := by intro _; kernel_rfl) : Ex C A env (.For target iter body [] pos) ρ σ Q X := by
  intro s S F
  refine wpAny_For (wpAny_mono (h s S F) (fun x s1 h1 => wpAny_mono h1 ?_ fun _ _ z => z) fun _ _ z => z) hs
  rintro it s2 ⟨xs, ok, σ', ow, J, q, W, hok, S2, e2, fr, hJ⟩
  refine codeAny_mono (for_run (σ0 := σ) (h0 := s.heap) W (fun b w => (fr b w).1) (fun b w z => ?_) (fun b w => ?_) (fun b w => (fr b w).2) S2 (F.evo e2) (e2.evoF F.own) hJ hok q) ?_
  · obtain ⟨o, e⟩ := F.own_there z
    rw [(fr b w).1] at e; cases e
  · cases z : C.h₀.get? b with
    | none => rfl
    | some o => have := S.base _ _ z; rw [(fr b w).1] at this; cases this
  · rintro (e | f) s' z
    · exact z.elim
    · exact z

/- sources -/
/-- iterating over a value gives these items -/
def ItV (C : Cx) (A : Around) (target : Expr) (x : V) (σ : Store) (xs : List V) (ok : Store → Prop) : Prop :=
  ok σ ∧ ∀ s v (Q : Value → Shared → Prop) (X : XP), St C σ s → VR s.heap v x → (∀ it ow J h' tk, Itr C A target it ow J ok xs → (∀ b o, s.heap.get? b = some o → h'.get? b = some o) → (∀ b, ow b → s.heap.objs.size ≤ b) → J 0 h' →
    Q it { s with heap := h', toks := tk }) → wpAny C.M A (pyIter v) Q X s

theorem St.fresh' (S : St C σ s) {b : Addr} (hb : s.heap.objs.size ≤ b) : σ b = none := by
  cases q : σ b with
  | none => rfl
  | some o =>
    obtain ⟨y, hy, _⟩ := (S.rep _ _ q).isSome
    exact absurd (Heap.lt_size hy) (Nat.not_lt.mpr hb)
theorem get?_fresh' {h : Heap} {b : Addr} (hb : h.objs.size ≤ b) : h.get? b = none := by
  cases q : h.get? b with
  | none => rfl
  | some o => exact absurd (Heap.lt_size q) (Nat.not_lt.mpr hb)
theorem Evo.fresh {σ' : Store} {h h' : Heap} {b : Addr} (S : St C σ' s) (e : Evo σ h σ' s.heap) (hb : s.heap.objs.size ≤ b) : h.get? b = none := by
  cases q : h.get? b with
  | none => rfl
  | some o =>
    have f := get?_fresh' hb
    cases z : σ b with
    | none =>
      obtain ⟨o', z'⟩ := (e.keep _ _ q z).got
      rw [z'] at f; cases f
    | some o' =>
      obtain ⟨o'', e''⟩ := e.mono _ _ z
      rw [S.fresh' hb] at e''; cases e''

theorem Src.of {target iter : Expr} {Q : List V → (Store → Prop) → Store → Prop} (h : Ev C A env iter ρ σ (fun x σ1 => ∃ xs ok, ItV C A target x σ1 xs ok ∧ Q xs ok σ1) X) : Src C A env target iter ρ σ Q X := by
  intro s S F
  refine wpAny_mono (h s S F) ?_ fun _ _ z => z
  rintro v s1 ⟨x, σ1, ⟨xs, ok, ⟨hok, hi⟩, q⟩, r1, S1, e1⟩
  refine hi s1 v _ _ S1 r1 fun it ow J h' tk W kp fr hJ => ?_
  exact ⟨xs, ok, σ1, ow, J, q, W, hok, S1.ext kp, e1.trans (.ext kp), fun b w => ⟨Evo.fresh (h' := s1.heap) S1 e1 (fr b w), S1.fresh' (fr b w)⟩, hJ⟩

theorem ItV.list {target : Expr} {l : Addr} {xs : List V} (hh : A.handled = none) (hl : LstAt C σ l xs) : ItV C A target (.ref l) σ xs (fun σ => LstAt C σ l xs) := by
  refine ⟨hl, fun s v Q X S r hQ => ?_⟩
  cases r
  obtain ⟨items, pl, hr⟩ := hl.raw S
  refine wpAny_pyIter_list pl ?_
  have hlt : l < s.heap.objs.size := by obtain ⟨o, e, _⟩ := pl; exact Heap.lt_size e
  exact hQ _ _ _ _ s.toks (Itr.list hh (Nat.ne_of_gt hlt)) (fun b o e => Heap.get?_push_of_some _ e) (fun b w => w ▸ Nat.le_refl _) ⟨_, Heap.get?_push_size _ rfl, rfl, rfl⟩

theorem Itr.tup {target : Expr} {it t : Addr} {items : Array Value} {xs : List V} {n : Nat} (hh : A.handled = none) (hne : it ≠ t) :
    Itr C A target (.ref it) (fun b => b = it) (fun k h => h.IsTupleIter it t k ∧ h.get? t = some (tupObj items n) ∧ VRs h items.toList xs) (fun _ => True) xs where
  frame := fun k h h' ⟨⟨o, e, r⟩, a, b⟩ tk kp => ⟨⟨o, kp it o rfl e, r⟩, tk _ _ (.tup _ _) a, b.mono tk⟩
  notTup := fun k h b o' ⟨⟨o, e, c, _⟩, _⟩ q z => by subst q; rw [e] at z; cases z; exact Imm.not (by rw [c]; simp) (by rw [c]; simp) (by rw [c]; simp)
  notD := fun k h b o' ⟨⟨o, e, c, d⟩, _⟩ q z es n w => by subst q; rw [e] at z; cases z; rw [d] at w; cases w
  there := fun k h b ⟨⟨o, e, _⟩, _⟩ q => by subst q; exact ⟨o, e⟩
  more := fun k σ s x Q X S hok ⟨hJ, ha, hr⟩ hx no hQ => by
    obtain ⟨u, hu, ru⟩ := hr.get hx
    have it' : s.heap.IsTuple t items := ⟨_, ha, rfl, n, rfl⟩
    refine wpAny_pyNext_tuple_item hJ it' (by simpa using hu) fun h' J' sb => ?_
    have kp : ∀ b o, ¬ b = it → s.heap.get? b = some o → h'.get? b = some o := fun b o q e => (sb.2 b q).trans e
    have tk : TupKeep s.heap h' := tk_ow (ow := fun b => b = it) kp fun b o' q => by
      subst q
      obtain ⟨o, e, c, _⟩ := hJ
      intro z; rw [e] at z; cases z; exact Imm.not (by rw [c]; simp) (by rw [c]; simp) (by rw [c]; simp)
    refine hQ u h' s.toks (ru.mono tk) kp (fun b o' q z => ?_) (fun Q' X' hq => by
      obtain ⟨o, e, c, _⟩ := id J'
      exact letGo_plain (s := { s with heap := h' }) e c (by decide) (hq h' s.toks ⟨J', tk _ _ (.tup _ _) ha, hr.mono tk⟩ fun _ _ _ e => e))
    subst q
    obtain ⟨o, e, c, _⟩ := J'
    rw [e] at z; cases z; exact Imm.not (by rw [c]; simp) (by rw [c]; simp) (by rw [c]; simp)
  self := fun k s Q X hJ hq => wpAny_pyIter_tupleiter hJ.1 hq
  done := fun k σ s Q X S hok ⟨hJ, ha, hr⟩ hx no hQ => by
    have hn : items[k]? = none := by
      have h1 := List.getElem?_eq_none_iff.mp hx
      have h2 := hr.length
      simp only [Array.length_toList] at h2
      exact Array.getElem?_eq_none_iff.mpr (by (first | lia | omega))
    exact wpAny_pyNext_tuple_end hh hJ ⟨_, ha, rfl, n, rfl⟩ hn fun h' kp => hQ h' s.toks fun b o q e => kp b o q e
theorem ItV.tup {target : Expr} {xs : List V} (hh : A.handled = none) : ItV C A target (.tup xs) σ xs (fun _ => True) := by
  refine ⟨trivial, fun s v Q X S r hQ => ?_⟩
  cases r with
  | @tup a items n _ ha hr =>
    refine wpAny_pyIter_tuple (items := items) ⟨_, ha, rfl, n, rfl⟩ ?_
    have hlt : a < s.heap.objs.size := Heap.lt_size ha
    exact hQ _ _ _ _ s.toks (Itr.tup (t := a) (items := items) (n := n) hh (Nat.ne_of_gt hlt)) (fun b o e => Heap.get?_push_of_some _ e) (fun b w => w ▸ Nat.le_refl _) ⟨⟨_, Heap.get?_push_size _ rfl, rfl, rfl⟩, Heap.get?_push_of_some _ ha, hr.push⟩

def irange (a b : Int) : List V := (List.range (b - a).toNat).map fun (i : Nat) => V.int (a + (i : Int))
theorem Itr.rng {target : Expr} {it : Addr} {a b : Int} (hh : A.handled = none) :
    Itr C A target (.ref it) (fun b => b = it) (fun k h => IsRangeIter h it (a + k) (((b - a).toNat : Int) - k) 1) (fun _ => True) (irange a b) where
  frame := fun k h h' e _ kp => kp it _ rfl e
  notTup := fun k h b o' e q z => by subst q; rw [e] at z; cases z; exact Imm.not (by simp) (by simp) (by simp)
  notD := fun k h b o' e q z es n w => by subst q; rw [e] at z; cases z; cases w
  there := fun k h b e q => by subst q; exact ⟨_, e⟩
  more := fun k σ s x Q X S hok hJ hx no hQ => by
    obtain ⟨hk, rfl⟩ := List.getElem?_eq_some_iff.mp hx
    have hk' : k < (b - a).toNat := by simpa [irange] using hk
    refine wpAny_pyNext_range_item hJ (by (first | lia | omega)) fun h' J' sb => ?_
    refine hQ _ h' (s.toks + 1) ?_ (fun b o q e => (sb.2 b q).trans e) (fun b o' q z => ?_) (fun Q' X' hq => by
      exact letGo_plain (s := { s with heap := h', toks := s.toks + 1 }) J' rfl (by decide) (hq h' (s.toks + 1) (by
        have e1 : a + (k : Int) + 1 = a + ((k + 1 : Nat) : Int) := by (first | lia | omega)
        have e2 : ((b - a).toNat : Int) - k - 1 = ((b - a).toNat : Int) - ((k + 1 : Nat) : Int) := by (first | lia | omega)
        rw [e1, e2] at J'; exact J') fun _ _ _ e => e))
    · simp only [irange, List.getElem_map, List.getElem_range]; exact .int _ _
    · subst q; rw [J'] at z; cases z; exact Imm.not (by simp) (by simp) (by simp)
  self := fun k s Q X hJ hq => wpAny_pyIter_rangeiter hJ hq
  done := fun k σ s Q X S hok hJ hx no hQ => by
    have h1 := List.getElem?_eq_none_iff.mp hx
    simp only [irange, List.length_map, List.length_range] at h1
    exact wpAny_pyNext_range_end hh hJ (by (first | lia | omega)) fun h' kp => hQ h' s.toks fun b o q e => kp b o q e
theorem ItV.rng {target : Expr} {a b : Int} (hh : A.handled = none) (ha : -(2 ^ 62) ≤ a) (ha' : a < 2 ^ 62) (hb : -(2 ^ 62) ≤ b) (hb' : b < 2 ^ 62) : ItV C A target (.rng a b) σ (irange a b) (fun _ => True) := by
  refine ⟨trivial, fun s v Q X S r hQ => ?_⟩
  cases r with
  | rng hr =>
    refine wpAny_pyIter_range hr (small_one ha ha' hb hb') ?_
    refine hQ _ _ _ _ s.toks (Itr.rng (a := a) (b := b) hh) (fun b o e => Heap.get?_push_of_some _ e) (fun b w => w ▸ Nat.le_refl _) ?_
    have e2 : Builtin.Range.rangeSize a b 1 = ((b - a).toNat : Int) := by rw [rangeSize_one]; split <;> (first | lia | omega)
    rw [e2]
    simpa using Heap.get?_push_size s.heap (o := { cls := .type "range_iterator", data := .fields #[rawInt a, rawInt ((b - a).toNat : Int), rawInt 1] }) rfl
end

end Mine

set_option autoImplicit false
set_option linter.unusedVariables false
namespace Mine
open PySem PySem.W

/-- the cells that a comprehension takes along -/
def clOf (cells : List (Str × Addr)) : List (Str × NameKind) → List (Str × Addr) → List (Str × Addr)
  | [], acc => acc
  | (n, k) :: r, acc => if k == .free then clOf cells r ((n, (cells.lookup n).getD 0) :: acc) else clOf cells r acc

theorem closure_go {env : Env} : ∀ (names : List (Str × NameKind)) (acc : List (Str × Addr)), (names.all fun p => p.2 != .free || (env.cells.lookup p.1).isSome) = true →
    (forIn names acc fun (x : Str × NameKind) (r : List (Str × Addr)) => (if x.2 == NameKind.free then (do let c ← cellOf env x.1; pure (ForInStep.yield ((x.1, c) :: r))) else pure (ForInStep.yield r) : Sem (ForInStep (List (Str × Addr))))) = pure (clOf env.cells names acc)
  | [], acc, _ => rfl
  | (n, k) :: r, acc, h => by
    simp only [List.all_cons, Bool.and_eq_true] at h
    rw [List.forIn_cons]
    unfold clOf
    by_cases q : (k == .free) = true
    · have hk : k = .free := by cases k <;> first | rfl | cases q
      subst hk
      have h1 : (env.cells.lookup n).isSome = true := by simpa using h.1
      obtain ⟨c, hc⟩ := Option.isSome_iff_exists.mp h1
      have e : cellOf env n = pure c := by unfold cellOf; rw [hc]
      simp only [q, if_true, e, pure_bind, hc, Option.getD_some]
      exact closure_go r _ h.2
    · simp only [q, if_false, pure_bind]
      exact closure_go r _ h.2
theorem closureFor_mine {env : Env} {scope : Scope} (h : (scope.names.all fun p => p.2 != .free || (env.cells.lookup p.1).isSome) = true) : closureFor scope env = pure (clOf env.cells scope.names []) := by
  unfold closureFor
  have := closure_go (env := env) scope.names [] h
  simp only [bind_pure]
  exact this

theorem clOf_mem {cells : List (Str × Addr)} : ∀ {names : List (Str × NameKind)} {acc : List (Str × Addr)} {x : Str} {c : Addr}, (x, c) ∈ clOf cells names acc → (x, c) ∈ acc ∨ ((x, NameKind.free) ∈ names ∧ c = (cells.lookup x).getD 0)
  | [], _, _, _, h => .inl h
  | (n, k) :: r, acc, x, c, h => by
    unfold clOf at h
    split at h
    · rename_i q
      have hk : k = .free := by cases k <;> first | rfl | cases q
      subst hk
      rcases clOf_mem h with z | ⟨z, e⟩
      · rcases List.mem_cons.mp z with z | z
        · cases z; exact .inr ⟨.head _, rfl⟩
        · exact .inl z
      · exact .inr ⟨.tail _ z, e⟩
    · rcases clOf_mem h with z | ⟨z, e⟩
      · exact .inl z
      · exact .inr ⟨.tail _ z, e⟩

/-- the names that a comprehension takes along, with their values -/
inductive Capt (ρ : Rho) : List (Str × NameKind) → Rho → Prop
  | nil : Capt ρ [] []
  | skip {n : Str} {k : NameKind} {r : List (Str × NameKind)} {ρc : Rho} : k ≠ .free → Capt ρ r ρc → Capt ρ ((n, k) :: r) ρc
  | take {n : Str} {v : V} {r : List (Str × NameKind)} {ρc : Rho} : ρ.get n = some v → Capt ρ r ρc → Capt ρ ((n, .free) :: r) ((n, v) :: ρc)
theorem Capt.get {ρ : Rho} {x : Str} {v : V} : ∀ {names : List (Str × NameKind)} {ρc : Rho}, Capt ρ names ρc → ρc.get x = some v → ρ.get x = some v ∧ (x, NameKind.free) ∈ names
  | _, _, .nil, h => by cases h
  | _, _, .skip _ c, h => by
    obtain ⟨a, b⟩ := c.get h
    exact ⟨a, .tail _ b⟩
  | _, _, .take (n := n) (v := u) (ρc := ρc) e c, h => by
    have h' : (if x = n then some u else Rho.get ρc x) = some v := h
    by_cases q : x = n
    · subst q; rw [if_pos rfl] at h'; cases h'; exact ⟨e, .head _⟩
    · rw [if_neg q] at h'
      obtain ⟨a, b⟩ := c.get h'
      exact ⟨a, .tail _ b⟩

def compOk (scope : Scope) : Bool := scope.names.all fun p => p.2 != .cell && (p.2 != .free || scope.names.lookup p.1 == some .free) && (p.2 != .local || scope.names.lookup p.1 == some .local)

theorem lookup_map_kind {g : Str → NameKind → NameKind} {x : Str} : ∀ (names : List (Str × NameKind)), (names.map fun (n, k) => (n, g n k)).lookup x = (names.lookup x).map (g x)
  | [] => rfl
  | (n, k) :: r => by
    simp only [List.map_cons, List.lookup_cons]
    cases q : x == n with
    | true => rw [beq_iff_eq.mp q]; rfl
    | false => exact lookup_map_kind r
theorem relabel_lookup {scope : Scope} {env : Env} {x : Str} : (relabel scope env).names.lookup x = (scope.names.lookup x).map fun k => if (k == .free && env.scope.kind == .function && env.kindOf x == some .cell) then .cell else k := by
  have e : (relabel scope env).names = scope.names.map fun (n, k) => (n, (fun (n : Str) (k : NameKind) => if (k == .free && env.scope.kind == .function && env.kindOf n == some .cell) then NameKind.cell else k) n k) := by
    unfold relabel
    refine List.map_congr_left fun p _ => ?_
    obtain ⟨n, k⟩ := p
    dsimp only
    split <;> rfl
  rw [e]
  exact lookup_map_kind (g := fun n k => if (k == .free && env.scope.kind == .function && env.kindOf n == some .cell) then NameKind.cell else k) scope.names

section
variable {C : Cx} {A : Around} {env : Env} {ρ : Rho} {σ : Store} {X : XP} {s : Shared}

theorem St.adopt {a : Addr} {o : O} {σ0 : Store} {h0 : Heap} (S : St C σ s) (r : Rep C s.heap a o) (hn : C.n₀ ≤ a) (e : Evo σ0 h0 σ s.heap) (hf : h0.get? a = none) : St C (σ.upd a o) s ∧ Evo σ0 h0 (σ.upd a o) s.heap := by
  refine ⟨⟨S.base, fun b x hx => ?_, fun b x hx => ?_, S.gens, S.os⟩, e.keep, fun b x hx => ?_, fun b x hx => ?_, e.tup⟩
  · by_cases q : b = a
    · subst q; rw [Store.upd_self] at hx; cases hx; exact r
    · rw [Store.upd_ne _ _ q] at hx; exact S.rep b x hx
  · by_cases q : b = a
    · subst q; exact ⟨S.baseFresh hn, .inl hn⟩
    · rw [Store.upd_ne _ _ q] at hx; exact S.above b x hx
  · by_cases q : b = a
    · subst q; exact .inr hf
    · rw [Store.upd_ne _ _ q] at hx; exact e.dom b x hx
  · obtain ⟨o', h'⟩ := e.mono b x hx
    by_cases q : b = a
    · subst q; exact ⟨_, Store.upd_self ..⟩
    · exact ⟨o', by rw [Store.upd_ne _ _ q]; exact h'⟩

/-- a comprehension, whatever is done with its list -/
theorem comp_run {x : Str} {px pos : Pos} {elt iter : Expr} {ifs : List Expr} {scope : Scope} {ρc : Rho} {use : Option (Value → Sem Unit)} {Qr : Value → Shared → Prop} {R : List V → Store → Prop}
    (hfree : (scope.names.all fun p => p.2 != .free || (env.cells.lookup p.1).isSome) = true) (hck : compOk scope = true) (hk : scope.kind = .function) (hx : scope.names.lookup x = some .local) (cap : Capt ρ scope.names ρc)
    (hs : ∀ x, foldedSetIterable iter env x = pure x) (S : St C σ s) (F : Fm C σ s.heap env ρ)
    (h : Src C A env (.Name x px) iter ρ σ (fun xs ok σ1 => ∀ L, CmpL C A (compEnvC scope (clOf env.cells scope.names []) L env) x ifs elt ok ρc R xs [] σ1) X)
    (fin : ∀ acc L σ2 s2 out items, R out σ2 → St C σ2 s2 → Evo σ s.heap σ2 s2.heap → s2.heap.PlainList acc items → VRs s2.heap items.toList out → σ2 acc = none → (∃ m, s2.heap.Ns L m) → σ2 L = none → C.n₀ ≤ acc → C.n₀ ≤ L → acc ≠ L → s.heap.get? acc = none → s.heap.get? L = none →
      compPost C.M A X use Qr (.ref acc) L (.ok .next) s2) :
    wpAny C.M A (comprehension (.ListComp elt [⟨.Name x px, iter, ifs, 0⟩] scope pos) scope env (firstIterPos [⟨.Name x px, iter, ifs, 0⟩] pos) (newList []) false (eval iter env) use) Qr X s := by
  have names_of : ∀ p ∈ scope.names, p.2 ≠ .cell ∧ (p.2 = .free → scope.names.lookup p.1 = some .free) ∧ (p.2 = .local → scope.names.lookup p.1 = some .local) := fun p hp => by
    have := List.all_eq_true.mp hck p hp
    simp only [Bool.and_eq_true, bne_iff_ne, ne_eq, Bool.or_eq_true, beq_iff_eq] at this
    refine ⟨this.1.1, fun e => ?_, fun e => ?_⟩
    · rcases this.1.2 with z | z
      · exact absurd e z
      · exact z
    · rcases this.2 with z | z
      · exact absurd e z
      · exact z
  refine wpAny_comprehension_free (cl := clOf env.cells scope.names []) rfl hs (closureFor_mine hfree) hk (fun p hp e => (names_of p hp).2.2 e) ?_
  refine wpAny_mono (h s S F) (fun v s1 h1 => wpAny_mono h1 ?_ fun _ _ z => z) fun _ _ z => z
  rintro it s2 ⟨xs, ok, σ', ow, J, q, W, hok, S2, e2, fr, hJ⟩
  refine wpAny_newObj_type (wpAny_newFunctionEnv (fun p hp => (names_of p hp).1) (by intro y hy; simp at hy) (fun h₁ hns₁ hsb₁ => ?_) hk)
  dsimp only at hns₁ hsb₁ ⊢
  generalize hH2 : s2.heap.push { cls := .type "list", dict := none, data := .seq ([] : List Value).toArray } = H2 at hns₁ hsb₁ ⊢
  have hC : H2.objs.size = s2.heap.objs.size + 1 := by rw [← hH2, push_size]
  have hDC : s2.heap.objs.size ≠ H2.objs.size := by rw [hC]; exact Nat.ne_of_lt (Nat.lt_succ_self _)
  have old : ∀ b o, s2.heap.get? b = some o → h₁.get? b = some o := fun b o e =>
    hsb₁.extBut b o (by rw [hC]; exact Nat.ne_of_lt (Nat.lt_succ_of_lt (Heap.lt_size e))) (Heap.get?_push_of_some _ (hH2 ▸ Heap.get?_push_of_some _ e))
  have hacc : h₁.PlainList s2.heap.objs.size #[] := ⟨_, hsb₁.extBut _ _ hDC (Heap.get?_push_of_some _ (hH2 ▸ Heap.get?_push_size _ rfl))⟩
  have F2 := F.evo e2
  have e12 : Evo σ' s2.heap σ' h₁ := .ext old
  have fresh2 : ∀ b, s2.heap.objs.size ≤ b → s.heap.get? b = none := fun b hb => Evo.fresh (h' := s2.heap) S2 e2 hb
  have hLle : s2.heap.objs.size ≤ H2.objs.size := by rw [hC]; exact Nat.le_succ _
  have cl_of : ∀ y c, (clOf env.cells scope.names []).lookup y = some c → env.cells.lookup y = some c ∧ scope.names.lookup y = some .free := fun y c hy => by
    rcases clOf_mem (mem_of_lookup hy) with z | ⟨z, e⟩
    · cases z
    · have h1 := List.all_eq_true.mp hfree _ z
      have h2 : (env.cells.lookup y).isSome = true := by simpa using h1
      obtain ⟨c', hc'⟩ := Option.isSome_iff_exists.mp h2
      rw [hc'] at e
      exact ⟨by rw [hc', e]; rfl, (names_of _ z).2.1 rfl⟩
  have S3 : St C σ' { s2 with heap := h₁, toks := s2.toks } := S2.ext old
  have F3 : Fm C σ' h₁ (compEnvC scope (clOf env.cells scope.names []) H2.objs.size env) ρc := by
    refine ⟨by show (relabel scope env).kind = _; exact hk, ⟨_, hns₁, fun y v hy hv => ?_⟩, S2.fresh' hLle, Nat.le_trans S2.size hLle, fun y c hy => ?_, fun y c hy => ?_, fun y z c hy hz => ?_⟩
    · exfalso
      obtain ⟨_, m⟩ := cap.get hv
      have h1 := (names_of _ m).2.1 rfl
      have h2 : (relabel scope env).names.lookup y = some .local := hy
      rw [relabel_lookup, h1] at h2
      simp only [Option.map_some, Option.some.injEq] at h2
      split at h2 <;> cases h2
    · obtain ⟨h1, _⟩ := cl_of y c hy
      obtain ⟨ov, a, b⟩ := (F2.evo e12).cell y c h1
      exact ⟨ov, a, fun v hv => b v (cap.get hv).1⟩
    · obtain ⟨h1, _⟩ := cl_of y c hy
      obtain ⟨n1, n2, n3⟩ := F2.ncell y c h1
      refine ⟨n1, ?_, n3⟩
      obtain ⟨ov, a, b⟩ := F2.cell y c h1
      exact Nat.ne_of_lt (Nat.lt_of_lt_of_le a.lt hLle)
    · exact F.apart y z c (cl_of y c hy).1 (cl_of z c hz).1
  have ownc : ∀ b, Own (compEnvC scope (clOf env.cells scope.names []) H2.objs.size env) b → b = H2.objs.size ∨ Own env b := by
    rintro b (z | ⟨y, z⟩)
    · exact .inl z
    · exact .inr (.inr ⟨y, (cl_of y b z).1⟩)
  have own_lt : ∀ b, Own env b → b < s2.heap.objs.size := fun b w => by
    obtain ⟨o, e⟩ := F2.own_there w
    exact Heap.lt_size e
  have owlt : ∀ b, ow b → b < s2.heap.objs.size := fun b w => by
    obtain ⟨o, e⟩ := W.there 0 _ b hJ w
    exact Heap.lt_size e
  have loop : ∀ s₃ : Shared, s₃ = { s2 with heap := h₁, toks := s2.toks + ([] : List (Str × Value)).length } →
      codeAny C.M A (.compLoop (.ListComp elt [⟨.Name x px, iter, ifs, 0⟩] scope pos) 0 it (.ref s2.heap.objs.size) (compEnvC scope (clOf env.cells scope.names []) H2.objs.size env))
        (compPost C.M A X use Qr (.ref s2.heap.objs.size) H2.objs.size) s₃ := by
    rintro s₃ rfl
    refine comp_turns (σ0 := σ) (h0 := s.heap) (R := R) W ?_ ?_ ?_ (fun b w => (fr b w).1) (fresh2 _ (Nat.le_refl _)) (fresh2 _ hLle) (fun b w => ?_) ?_ (fun w => Nat.lt_irrefl _ (owlt _ w)) hDC
      (fun w => absurd (owlt _ w) (Nat.not_lt.mpr hLle)) (fun b w z => ?_) (fun z => ?_) ?_ _ 0 [] σ' _ #[] rfl hok (by simpa using q H2.objs.size) S3 F3 (e2.trans e12) (W.frame _ _ _ hJ e12.tup fun b o _ e => old b o e)
      (fun b w => (fr b w).2) hacc .nil (S2.fresh' (Nat.le_refl _))
    · exact lookup_relabel_local hx
    · cases z : (clOf env.cells scope.names []).lookup x with
      | none => exact z
      | some c => have := (cl_of x c z).2; rw [hx] at this; cases this
    · cases z : ρc.get x with
      | none => rfl
      | some v => have := (names_of _ (cap.get z).2).2.1 rfl; rw [hx] at this; cases this
    · cases z : C.h₀.get? b with
      | none => rfl
      | some o => have := S.base _ _ z; rw [(fr b w).1] at this; cases this
    · cases z : C.h₀.get? s2.heap.objs.size with
      | none => rfl
      | some o => have := S.base _ _ z; rw [fresh2 _ (Nat.le_refl _)] at this; cases this
    · rcases ownc b z with y | y
      · exact absurd (owlt _ w) (by rw [y]; exact Nat.not_lt.mpr hLle)
      · obtain ⟨o, e⟩ := F.own_there y
        rw [(fr b w).1] at e; cases e
    · rcases ownc _ z with y | y
      · exact hDC y
      · exact Nat.lt_irrefl _ (own_lt _ y)
    · intro out σ2 s4 items hR S4 e4 pl4 r4 na4 ns4 nl4
      exact fin _ _ σ2 s4 out items hR S4 e4 pl4 r4 na4 ns4 nl4 S2.size (Nat.le_trans S2.size hLle) hDC (fresh2 _ (Nat.le_refl _)) (fresh2 _ hLle)
  exact codeAny_compStart_list (loop _ rfl) (W.self 0 _ _ _ (W.frame _ _ _ hJ e12.tup fun b o _ e => old b o e) (loop _ rfl))

theorem Ev.comp {x : Str} {px pos : Pos} {elt iter : Expr} {ifs : List Expr} {scope : Scope} {ρc : Rho} {Q : V → Store → Prop}
    (hfree : (scope.names.all fun p => p.2 != .free || (env.cells.lookup p.1).isSome) = true) (hck : compOk scope = true) (hk : scope.kind = .function) (hx : scope.names.lookup x = some .local) (cap : Capt ρ scope.names ρc)
    (h : Src C A env (.Name x px) iter ρ σ (fun xs ok σ1 => ∀ L, CmpL C A (compEnvC scope (clOf env.cells scope.names []) L env) x ifs elt ok ρc (fun out σ2 => ∀ a, σ2 a = Option.none → Q (.ref a) (σ2.upd a (.list out))) xs [] σ1) X)
    (hs : ∀ x, foldedSetIterable iter env x = Pure.pure x := by intro _; kernel_rfl) : Ev C A env (.ListComp elt [⟨.Name x px, iter, ifs, 0⟩] scope pos) ρ σ Q X := by
  intro s S F
  rw [eval_ListComp]
  refine comp_run hfree hck hk hx cap hs S F h ?_
  intro acc L σ2 s2 out items q S2 e2 pl2 r2 na2 ⟨m, hm⟩ nl2 n1 n2 hne fa fl
  refine ⟨m, hm, fun h' sb => ?_⟩
  have kp : ∀ b o, ¬ b = L → s2.heap.get? b = some o → h'.get? b = some o := fun b o w e => (sb.2 b w).trans e
  have nt : ∀ b o, b = L → s2.heap.get? b = some o → ¬ Imm o := fun b o w z => by
    subst w
    obtain ⟨o', es, ep, ho, hd, _⟩ := hm
    rw [ho] at z; cases z; exact Imm.notDict hd
  have S3 : St C σ2 { s2 with heap := h', toks := s2.toks } := S2.ow (ow := fun b => b = L) kp nt (fun b w => w ▸ nl2) (fun b w => by
    subst w
    cases z : C.h₀.get? b with
    | none => rfl
    | some o => exact absurd (C.low _ _ z) (Nat.not_lt.mpr n2))
  have e3 : Evo σ s.heap σ2 h' := e2.ow (ow := fun b => b = L) kp (fun b w => w ▸ fl)
  obtain ⟨S4, e4⟩ := S3.adopt (a := acc) (o := .list out) ⟨items, pl2.at fun o e => kp _ _ hne e, r2.mono (tk_ow (ow := fun b => b = L) kp nt)⟩ n1 e3 fa
  exact ⟨.ref acc, _, q acc na2, .ref _, S4, e4⟩

/-- a comprehension stored into a name of the frame's own straight away -/
theorem Ex.assignComp {x y : Str} {px py pos spos : Pos} {elt iter : Expr} {ifs : List Expr} {scope : Scope} {ρc : Rho} {Q : FV → Rho → Store → Prop}
    (hfree : (scope.names.all fun p => p.2 != .free || (env.cells.lookup p.1).isSome) = true) (hck : compOk scope = true) (hk : scope.kind = .function) (hx : scope.names.lookup x = some .local) (cap : Capt ρ scope.names ρc)
    (hy : env.kindOf y = some .local) (hyc : env.cells.lookup y = none)
    (h : Src C A env (.Name x px) iter ρ σ (fun xs ok σ1 => ∀ L, CmpL C A (compEnvC scope (clOf env.cells scope.names []) L env) x ifs elt ok ρc (fun out σ2 => ∀ a, σ2 a = none → Q .next (ρ.put y (.ref a)) (σ2.upd a (.list out))) xs [] σ1) X)
    (hsw : swapsWith (.ListComp elt [⟨.Name x px, iter, ifs, 0⟩] scope pos) (some (.Name y py)) spos.line env = pure true := by kernel_rfl)
    (hs : ∀ x, foldedSetIterable iter env x = pure x := by intro _; kernel_rfl) : Ex C A env (.Assign [.Name y py] (.ListComp elt [⟨.Name x px, iter, ifs, 0⟩] scope pos) spos) ρ σ Q X := by
  intro s S F
  rw [exec_Assign_Name_used _ _ _ _ hsw]
  refine wpAny_bind (wpAny_standAt (wpAny_bind ?_))
  rw [arm_evalThenUse_ListComp]
  refine wpAny_bind ?_
  refine comp_run (Qr := fun _ s' => wpAny C.M A (pure PUnit.unit) (fun _ s' => wpAny C.M A (pure Flow.next) (SP C env σ s.heap Q) X s') X s') hfree hck hk hx cap hs S F h ?_
  intro acc L σ2 s2 out items q S2 e2 pl2 r2 na2 ⟨m, hm⟩ nl2 n1 n2 hne fa fl
  have F2 := F.evo e2
  obtain ⟨m2, hm2, f2⟩ := F2.loc
  have hLe : L ≠ env.locals := fun z => by
    obtain ⟨o, e⟩ := F.own_there (.inl rfl)
    rw [z, e] at fl; cases fl
  have hAe : acc ≠ env.locals := fun z => by
    obtain ⟨o, e⟩ := F.own_there (.inl rfl)
    rw [z, e] at fa; cases fa
  obtain ⟨S4, e4⟩ := S2.adopt (a := acc) (o := .list out) ⟨items, pl2, r2⟩ n1 e2 fa
  have F4 : Fm C (σ2.upd acc (.list out)) s2.heap env ρ := F.evo e4
  refine wpAny_assign_Name (wpAny_storeName_local hy hm2 (fun h3 hn3 hs3 => ?_) (by rw [F2.fn]; rfl))
  obtain ⟨S5, F5, e5⟩ := Fm.storeLocal (h := s2.heap) (t := s2.toks + 1) S4 F4 hy hm2 f2 hn3 hs3 (VR.ref acc) hyc
  have hm3 : h3.Ns L m := hm.sameBut hs3 hLe
  refine ⟨m, hm3, fun h' sb => ?_⟩
  have kp : ∀ b o, ¬ b = L → h3.get? b = some o → h'.get? b = some o := fun b o w e => (sb.2 b w).trans e
  have nt : ∀ b o, b = L → h3.get? b = some o → ¬ Imm o := fun b o w z => by
    subst w
    obtain ⟨o', es, ep, ho, hd, _⟩ := hm3
    rw [ho] at z; cases z; exact Imm.notDict hd
  have nl4 : (σ2.upd acc (.list out)) L = none := by rw [Store.upd_ne _ _ hne.symm]; exact nl2
  have S6 : St C (σ2.upd acc (.list out)) { s2 with heap := h', toks := s2.toks + 1 } := St.ow (s := { s2 with heap := h3, toks := s2.toks + 1 }) (ow := fun b => b = L) S5 kp nt (fun b w => w ▸ nl4) (fun b w => by
    subst w
    cases z : C.h₀.get? b with
    | none => rfl
    | some o => exact absurd (C.low _ _ z) (Nat.not_lt.mpr n2))
  refine wpAny_pure (wpAny_pure ⟨.next, _, _, q acc na2, .next, S6, F5.ow (ow := fun b => b = L) kp nt (fun b w z => ?_), ((e4.evoF F.own).trans e5).ow (ow := fun b => b = L) kp (fun b w => w ▸ fl)⟩)
  subst w
  obtain ⟨o, e⟩ := F.own_there z
  rw [e] at fl; cases fl
end

end Mine

set_option autoImplicit false
set_option linter.unusedVariables false
namespace Mine
open PySem PySem.W PySem.SeqAt

section
variable {C : Cx} {A : Around} {env : Env} {ρ : Rho} {σ : Store} {X : XP} {s : Shared}

mutual
/-- a value as plain data -/
inductive DR (C : Cx) (σ : Store) : V → PyData → Prop where
  | none : DR C σ .none .none
  | bool (b : Bool) : DR C σ (.bool b) (.bool b)
  | int (i : Int) : DR C σ (.int i) (.int i)
  | str (x : Str) : DR C σ (.str x) (.str x)
  | tup {xs : List V} {ds : List PyData} : DRs C σ xs ds → DR C σ (.tup xs) (.tuple ds)
  | list {l : Addr} {xs : List V} {ds : List PyData} : LstAt C σ l xs → DRs C σ xs ds → DR C σ (.ref l) (.list ds)
inductive DRs (C : Cx) (σ : Store) : List V → List PyData → Prop where
  | nil : DRs C σ [] []
  | cons {x : V} {xs : List V} {d : PyData} {ds : List PyData} : DR C σ x d → DRs C σ xs ds → DRs C σ (x :: xs) (d :: ds)
end

mutual
theorem DR.reads (S : St C σ s) {x : V} {d : PyData} {v : Value} (h : DR C σ x d) (r : VR s.heap v x) : ∃ as, Reads s.heap v d as := by
  cases h with
  | none => cases r; exact ⟨_, .none⟩
  | bool b => cases r; exact ⟨_, .bool b⟩
  | int i => cases r; exact ⟨_, .int i _⟩
  | str x => cases r; exact ⟨_, .str x _⟩
  | tup ds =>
    cases r with
    | tup e r =>
      obtain ⟨as, h⟩ := DRs.reads S ds r
      exact ⟨_, .tuple e rfl rfl h⟩
  | list hl ds =>
    cases r
    obtain ⟨items, ⟨o, e, c, n, hd⟩, r⟩ := hl.raw S
    obtain ⟨as, h⟩ := DRs.reads S ds r
    exact ⟨_, .list e c hd h⟩
theorem DRs.reads (S : St C σ s) {xs : List V} {ds : List PyData} {vs : List Value} (h : DRs C σ xs ds) (r : VRs s.heap vs xs) : ∃ as, ReadsAll s.heap vs ds as := by
  cases h with
  | nil => cases r; exact ⟨_, .nil⟩
  | cons a b =>
    cases r with
    | cons r rs =>
      obtain ⟨as, h⟩ := DR.reads S a r
      obtain ⟨bs, h'⟩ := DRs.reads S b rs
      exact ⟨_, .cons h h'⟩
end

theorem CmpWP.eq {x y : V} {d e : PyData} {Q : V → Store → Prop} (hx : DR C σ x d) (hy : DR C σ y e) (h1 : d.canLay0 = true) (h2 : e.canLay0 = true) (hu : A.units + min d.depth e.depth < cLine) (h : Q (.bool (PyData.eqv d e)) σ) :
    CmpWP C A .Eq x y σ Q X := by
  intro s a b S ra rb
  obtain ⟨as, r1⟩ := hx.reads S ra
  obtain ⟨bs, r2⟩ := hy.reads S rb
  exact eqOverData _ _ _ _ _ _ _ _ _ _ _ _ r1 r2 h1 h2 hu (EP.pure S h (.bool _))
theorem CmpWP.inL {x : V} {l : Addr} {xs : List V} {d : PyData} {ds : List PyData} {Q : V → Store → Prop} (hl : LstAt C σ l xs) (hx : DR C σ x d) (hy : DRs C σ xs ds) (h1 : d.canLay0 = true) (h2 : PyData.canLayAll0 ds = true) (hu : A.units + 1 + min (PyData.depthAll ds) d.depth < cLine)
    (h : Q (.bool (ds.any fun y => PyData.eqv y d)) σ) : CmpWP C A .In x (.ref l) σ Q X := by
  intro s a b S ra rb
  obtain ⟨as, r1⟩ := hx.reads S ra
  obtain ⟨bs, r2⟩ := (DR.list hl hy).reads S rb
  exact in_list_reads r2 r1 h2 h1 hu (EP.pure S h (.bool _))
theorem CmpWP.notInL {x : V} {l : Addr} {xs : List V} {d : PyData} {ds : List PyData} {Q : V → Store → Prop} (hl : LstAt C σ l xs) (hx : DR C σ x d) (hy : DRs C σ xs ds) (h1 : d.canLay0 = true) (h2 : PyData.canLayAll0 ds = true) (hu : A.units + 1 + min (PyData.depthAll ds) d.depth < cLine)
    (h : Q (.bool (!ds.any fun y => PyData.eqv y d)) σ) : CmpWP C A .NotIn x (.ref l) σ Q X := by
  intro s a b S ra rb
  obtain ⟨as, r1⟩ := hx.reads S ra
  obtain ⟨bs, r2⟩ := (DR.list hl hy).reads S rb
  exact notIn_list_reads r2 r1 h2 h1 hu (EP.pure S h (.bool _))
theorem CmpWP.inT {x : V} {xs : List V} {d : PyData} {ds : List PyData} {Q : V → Store → Prop} (hx : DR C σ x d) (hy : DRs C σ xs ds) (h1 : d.canLay0 = true) (h2 : PyData.canLayAll0 ds = true) (hu : A.units + 1 + min (PyData.depthAll ds) d.depth < cLine)
    (h : Q (.bool (ds.any fun y => PyData.eqv y d)) σ) : CmpWP C A .In x (.tup xs) σ Q X := by
  intro s a b S ra rb
  obtain ⟨as, r1⟩ := hx.reads S ra
  obtain ⟨bs, r2⟩ := (DR.tup hy).reads S rb
  exact in_tuple_reads r2 r1 h2 h1 hu (EP.pure S h (.bool _))
/- None, True, False -/
theorem CmpWP.isNone {x : V} {Q : V → Store → Prop} (h : Q (.bool (match x with | .none => true | _ => false)) σ) : CmpWP C A .Is x .none σ Q X := by
  intro s a b S ra rb
  cases rb
  refine is_none (EP.pure S h ?_)
  cases ra <;> exact .bool _
theorem CmpWP.isNotNone {x : V} {Q : V → Store → Prop} (h : Q (.bool (match x with | .none => false | _ => true)) σ) : CmpWP C A .IsNot x .none σ Q X := by
  intro s a b S ra rb
  cases rb
  refine isNot_none (EP.pure S h ?_)
  cases ra <;> exact .bool _

/- lists: truth, length, items -/
theorem TruWP.list {l : Addr} {xs : List V} {Q : Bool → Store → Prop} (hl : LstAt C σ l xs) (hz : xs.length < 2 ^ 62) (h : Q (!xs.isEmpty) σ) : TruWP C A (.ref l) σ Q X := by
  intro s a S r
  cases r
  obtain ⟨items, il, rl⟩ := hl.raw S
  have e := rl.length
  simp only [Array.length_toList] at e
  refine wpAny_truthy_list il (by (first | lia | omega)) ⟨σ, ?_, S.toks _, .refl ..⟩
  have : items.isEmpty = xs.isEmpty := by
    unfold Array.isEmpty
    rw [e]
    cases xs <;> simp
  rw [this]; exact h

def BltWP (C : Cx) (A : Around) (id : String) (args : List V) (σ : Store) (Q : V → Store → Prop) (X : XP) : Prop := CallWP C A (.builtin id) args σ Q X

theorem BltWP.len_list {l : Addr} {xs : List V} {Q : V → Store → Prop} (hl : LstAt C σ l xs) (hz : xs.length < 2 ^ 62) (h : Q (.int xs.length) σ) : CallWP C A (.builtin "len") [.ref l] σ Q X := by
  intro s vs S r
  cases r with
  | cons r1 r2 =>
  cases r2; cases r1
  obtain ⟨items, il, rl⟩ := hl.raw S
  have e := rl.length
  simp only [Array.length_toList] at e
  refine Calls.call_len_list il (by (first | lia | omega)) ⟨_, σ, h, ?_, S.toks _, .refl ..⟩
  rw [e]; exact .int _ _
end

end Mine

set_option autoImplicit false
set_option linter.unusedVariables false
namespace Mine
open PySem PySem.W PySem.SeqAt

/-- its items come by a built-in -/
def Gets (s : Shared) (a : Value) : Prop := ∃ T id, s.TypeIs a T ∧ typeLookup (.type T) "__getitem__" = pure (some (.builtin id))
def ItemWP (C : Cx) (A : Around) (o i : V) (σ : Store) (Q : V → Store → Prop) (X : XP) : Prop :=
  ∀ s a b, St C σ s → VR s.heap a o → VR s.heap b i → Gets s a ∧ wpAny C.M A (getItem a b) (EP C σ s.heap Q) X s

section
variable {C : Cx} {A : Around} {env : Env} {ρ : Rho} {σ : Store} {X : XP} {s : Shared}

theorem Gets.list {a : Addr} {items : Array Value} (h : s.heap.IsList a items) : Gets s (.ref a) := ⟨_, _, h.typeIs, PySem.slot_list_getitem.lookup⟩
theorem Gets.tup {a : Addr} {items : Array Value} {n : Nat} (h : s.heap.get? a = some (tupObj items n)) : Gets s (.ref a) := ⟨_, _, ⟨_, h, rfl⟩, PyProof.Rows.slot_tuple_getitem.lookup⟩
theorem Gets.str {x : Str} {t : Tok} : Gets s (.str x t) := ⟨_, _, typeIs_str s x t, PyProof.Rows.slot_str_getitem.lookup⟩

theorem getitem_mine {o i : Value} {slice value : Expr} {Q : Value → Shared → Prop} {E : XP} (g : Gets s o) (h : wpAny C.M A (getItem o i) Q E s) :
    wpAny C.M A (do let r ← subscripted slice (← getitemInPython o) o i; letTemporaryGo value o r; pure r) Q E s := by
  obtain ⟨T, id, hT, hl⟩ := g
  refine wpAny_bind ?_
  rw [getitemInPython_of_ne hT.not_modules]
  refine wpAny_bind (wpAny_specialOf hT hl (wpAny_pure ?_))
  refine wpAny_bind (wpAny_mono (Q := Q) ?_ (fun r s' q => wpAny_bind (wpAny_letTemporaryGo (wpAny_pure q))) fun _ _ z => z)
  cases slice <;> first | exact wpAny_operating h | (rename_i st _; cases st <;> exact wpAny_operating h)

theorem Ev.sub {value slice : Expr} {pos : Pos} {Q : V → Store → Prop} (h : Ev C A env value ρ σ (fun o σ1 => Ev C A env slice ρ σ1 (fun i σ2 => ItemWP C A o i σ2 Q X) X) X) : Ev C A env (.Subscript value slice pos) ρ σ Q X := by
  intro s S F
  rw [eval_Subscript]
  refine wpAny_bind (wpAny_mono (h s S F) ?_ fun _ _ z => z)
  rintro o s1 ⟨x, σ1, h1, r1, S1, e1⟩
  refine wpAny_bind (wpAny_holding (wpAny_mono (h1 s1 S1 (F.evo e1)) ?_ fun _ _ z => z))
  rintro i s2 ⟨y, σ2, h2, r2, S2, e2⟩
  obtain ⟨g, w⟩ := h2 s2 o i S2 (r1.mono e2.tup) r2
  exact wpAny_bind (wpAny_standAt (wpAny_mono (getitem_mine g w) (fun _ _ z => (z.after e2).after e1) fun _ _ z => z))

theorem ItemWP.list {l : Addr} {xs : List V} {k : Int} {y : V} {Q : V → Store → Prop} (hl : LstAt C σ l xs) (h0 : 0 ≤ k) (hk : k < 2 ^ 63) (hx : xs[k.toNat]? = some y) (h : Q y σ) : ItemWP C A (.ref l) (.int k) σ Q X := by
  intro s a b S ra rb
  cases ra; cases rb
  obtain ⟨items, il, rl⟩ := hl.raw S
  obtain ⟨u, hu, ru⟩ := rl.get hx
  exact ⟨.list il, wpAny_getItem_list il h0 hk (by simpa using hu) (EP.pure S h ru)⟩
theorem ItemWP.listNeg {l : Addr} {xs : List V} {k : Int} {y : V} {Q : V → Store → Prop} (hl : LstAt C σ l xs) (h0 : k < 0) (h1 : -(xs.length : Int) ≤ k) (hf : -(2 ^ 63) ≤ k) (hx : xs[(k + xs.length).toNat]? = some y) (h : Q y σ) : ItemWP C A (.ref l) (.int k) σ Q X := by
  intro s a b S ra rb
  cases ra; cases rb
  obtain ⟨items, il, rl⟩ := hl.raw S
  obtain ⟨u, hu, ru⟩ := rl.get hx
  have e := rl.length
  simp only [Array.length_toList] at e
  exact ⟨.list il, wpAny_getItem_list_neg il h0 (by rw [e]; exact h1) hf (by rw [e]; simpa using hu) (EP.pure S h ru)⟩
theorem ItemWP.tup {xs : List V} {k : Int} {j : Nat} {y : V} {Q : V → Store → Prop} (hlo : -(2 ^ 63) ≤ k) (hhi : k < 2 ^ 63) (hj : seqIndex? k xs.length = some j) (hx : xs[j]? = some y) (h : Q y σ) : ItemWP C A (.tup xs) (.int k) σ Q X := by
  intro s a b S ra rb
  cases rb
  cases ra with
  | @tup t items n _ ha hr =>
    obtain ⟨u, hu, ru⟩ := hr.get hx
    have e := hr.length
    simp only [Array.length_toList] at e
    exact ⟨.tup ha, PyProof.Rows.getItem_tuple (t := t) (items := items) ⟨_, ha, rfl, n, rfl⟩ hlo hhi (by rw [e]; exact hj) (by simpa using hu) (EP.pure S h ru)⟩
theorem ItemWP.str {x : Str} {k : Int} {c : Nat} {Q : V → Store → Prop} (hlo : -(2 ^ 63) ≤ k) (hhi : k < 2 ^ 63) (hc : (seqIndex? k x.length).bind (x.cps[·]?) = some c) (h : Q (.str ⟨#[c]⟩) σ) : ItemWP C A (.str x) (.int k) σ Q X := by
  intro s a b S ra rb
  cases rb; cases ra
  exact ⟨.str, PyProof.Rows.getItem_str (by simp; (first | lia | omega)) hc (EP.pureT S h (.str _ _))⟩

/- dicts -/
theorem ItemWP.sd {d : Addr} {es : List (Str × V)} {k : Str} {y : V} {Q : V → Store → Prop} (hd : σ d = some (.sd es)) (hx : sget es k = some y) (h : Q y σ) : ItemWP C A (.ref d) (.str k) σ Q X := by
  intro s a b S ra rb
  cases ra; cases rb
  rename_i t
  obtain ⟨kvs, D, pr⟩ := S.rep _ _ hd
  obtain ⟨u, hu, ru⟩ := pr.find (x := k) (y := y) hx
  refine ⟨⟨_, _, D.typeIs, PySem.slot_dict_getitem.lookup⟩, ?_⟩
  exact wpAny_getItem_of (knd := strKind C.prog C.w) (k := k) (by show (k == k) = true; simp) D.mapOf hu (EP.pureT S h ru)
def iget (es : List (Int × V)) (x : Int) : Option V := (es.find? fun p => decide (p.1 = x)).map (·.2)
/- slices -/
def Prt (C : Cx) (A : Around) (env : Env) (e : Option Expr) (ρ : Rho) (σ : Store) (Q : Option Int → Store → Prop) (X : XP) : Prop :=
  match e with
  | none => Q none σ
  | some e => Ev C A env e ρ σ (fun x σ1 => ∃ i, x = .int i ∧ Q (some i) σ1) X
theorem Prt.none {Q : Option Int → Store → Prop} (h : Q Option.none σ) : Prt C A env Option.none ρ σ Q X := h
theorem Prt.some {e : Expr} {Q : Option Int → Store → Prop} (h : Ev C A env e ρ σ (fun x σ1 => ∃ i, x = .int i ∧ Q (Option.some i) σ1) X) : Prt C A env (Option.some e) ρ σ Q X := h
theorem Prt.run {e : Option Expr} {Q : Option Int → Store → Prop} (h : Prt C A env e ρ σ Q X) (S : St C σ s) (F : Fm C σ s.heap env ρ) :
    wpAny C.M A (valueOrNone (evalOpt e env)) (fun v s' => ∃ k σ', Q k σ' ∧ IsPart v k ∧ St C σ' s' ∧ Evo σ s.heap σ' s'.heap) X s := by
  match e, h with
  | Option.none, h => exact wpAny_pure ⟨Option.none, σ, h, .none, S, .refl ..⟩
  | Option.some e, h =>
    refine wpAny_mono (h s S F) ?_ fun _ _ z => z
    rintro v s1 ⟨x, σ1, ⟨i, rfl, q⟩, r1, S1, e1⟩
    cases r1
    exact ⟨Option.some i, σ1, q, .int _ _, S1, e1⟩

def pySlice {α : Type} (xs : List α) (lo hi : Option Int) : List α :=
  (sliceRange (sliceBounds lo hi none xs.length).1 (sliceBounds lo hi none xs.length).2.1 (sliceBounds lo hi none xs.length).2.2).filterMap (xs[·]?)
theorem VRs.pick {h : Heap} {vs : List Value} {xs : List V} (r : VRs h vs xs) : ∀ ks : List Nat, VRs h (ks.filterMap (vs[·]?)) (ks.filterMap (xs[·]?))
  | [] => .nil
  | k :: ks => by
    have ih := VRs.pick r ks
    cases q : xs[k]? with
    | none =>
      have : vs[k]? = none := by
        have h1 := List.getElem?_eq_none_iff.mp q
        exact List.getElem?_eq_none_iff.mpr (by rw [r.length]; exact h1)
      simp only [List.filterMap_cons, q, this]; exact ih
    | some y =>
      obtain ⟨u, hu, ru⟩ := r.get q
      simp only [List.filterMap_cons, q, hu]; exact .cons ru ih
theorem slicePick_list (items : Array Value) (lo hi : Option Int) : (slicePick items lo hi none).toList = pySlice items.toList lo hi := by
  unfold slicePick pySlice
  simp
end

end Mine

set_option autoImplicit false
set_option linter.unusedVariables false
namespace Mine
open PySem PySem.W PySem.SeqAt

/-- a built-in type's value without a dict of its own -/
def TyV (C : Cx) (σ : Store) (x : V) (T : String) : Prop := ∀ s v, St C σ s → VR s.heap v x → s.TypeIs v T ∧ ∀ a, v = .ref a → ∃ ob, s.heap.get? a = some ob ∧ ob.dict = none

section
variable {C : Cx} {A : Around} {env : Env} {ρ : Rho} {σ : Store} {X : XP} {s : Shared}

theorem TyV.list {l : Addr} {xs : List V} (h : σ l = some (.list xs)) : TyV C σ (.ref l) "list" := by
  intro s v S r
  cases r
  obtain ⟨items, ⟨n, e⟩, _⟩ := S.rep _ _ h
  exact ⟨⟨_, e, rfl⟩, fun a q => by cases q; exact ⟨_, e, rfl⟩⟩
/-- a method of a built-in type -/
theorem Ev.bmeth {o : Expr} {name : Str} {apos pos : Pos} {args : List Expr} {T id : String} {Q : V → Store → Prop} (pa : PlainAttrs T) (slot : Slot T name id) (hty : typeOf (.builtin id) = Pure.pure (.type "method_descriptor"))
    (h : Ev C A env o ρ σ (fun x σ1 => TyV C σ1 x T ∧ Ags C A env pos args ρ σ1 (fun xs σ2 => CallWP C A (.builtin id) (x :: xs) σ2 Q X) X) X)
    (hbase : attributeBase o name env (eval o env) = eval o env := by kernel_rfl)
    (hfew : ((backTo pos (starEach args env)).all (fun x => !x.1) && (backToKw pos (keywordEach [] env)).all (fun x => x.1.isSome)
      && decide (args.length + ([] : List Keyword).length + (if ([] : List Keyword).isEmpty then 0 else 1) < 30)) = true := by kernel_rfl)
    (hline : (apos.endLine == pos.line) = true := by kernel_rfl) (hst : (backTo pos (starEach args env)).any (·.1) = false := by kernel_rfl) : Ev C A env (.Call (.Attribute o name apos) args [] pos) ρ σ Q X := by
  intro s S F
  refine wpAny_Call_method hbase hfew hline pa slot hty (wpAny_mono (h s S F) ?_ fun _ _ z => z)
  rintro ov s1 ⟨x, σ1, ⟨t, q⟩, r1, S1, e1⟩
  obtain ⟨t1, t2⟩ := t s1 ov S1 r1
  exact ⟨t1, t2, wpAny_mono (callWith_mine (first := [ov]) (fx := [x]) Kp.blt S1 (F.evo e1) (.cons r1 .nil) q hst) (fun _ _ z => z.after e1) fun _ _ z => z⟩

/- one list changed -/
theorem upd_list {l : Addr} {xs : List V} {items : Array Value} {n : Nat} {f : Array Value → Array Value} {ys : List V} (S : St C σ s) (hl : σ l = some (.list xs)) (e : s.heap.get? l = some { cls := .type "list", data := .seq items n })
    (r : VRs s.heap (f items).toList ys) : St C (σ.upd l (.list ys)) { s with heap := s.heap.update l (Obj.mapSeq f) } ∧ Evo σ s.heap (σ.upd l (.list ys)) (s.heap.update l (Obj.mapSeq f)) := by
  have sb : Heap.SameBut l s.heap (s.heap.update l (Obj.mapSeq f)) := Heap.SameBut.update ..
  have tk : TupKeep s.heap (s.heap.update l (Obj.mapSeq f)) := tupKeep_sameBut sb (S.rep _ _ hl).notTup
  have e' : ∃ n', (s.heap.update l (Obj.mapSeq f)).get? l = some { cls := .type "list", data := .seq (f items) n' } := by
    refine ⟨if (f items).size == items.size then n else n + 1, ?_⟩
    rw [Heap.get?_update_self _ e (by rfl)]; rfl
  exact S.set (t := s.toks) hl sb ⟨f items, e', r.mono tk⟩

theorem CallWP.append {l : Addr} {xs : List V} {x : V} {Q : V → Store → Prop} (hl : σ l = some (.list xs)) (hz : xs.length ≤ sizeLine) (h : Q .none (σ.upd l (.list (xs ++ [x])))) : CallWP C A (.builtin "list.append") [.ref l, x] σ Q X := by
  intro s vs S r
  cases r with
  | cons r1 r2 =>
  cases r2 with
  | cons r2 r3 =>
  cases r3; cases r1
  obtain ⟨items, pl, rl⟩ := S.rep _ _ hl
  have e := rl.length
  simp only [Array.length_toList] at e
  refine wpAny_list_append_plain pl (fun h' pl' sb => ?_) (by (first | lia | omega))
  have tk : TupKeep s.heap h' := tupKeep_sameBut sb (S.rep _ _ hl).notTup
  obtain ⟨S', e'⟩ := S.set (t := s.toks) (o' := .list (xs ++ [x])) hl sb ⟨_, pl', by simp only [Array.toList_push]; exact (rl.mono tk).append (.cons (r2.mono tk) .nil)⟩
  exact ⟨.none, _, h, .none, S', e'⟩

theorem VRs.erase {h : Heap} : ∀ {vs : List Value} {xs : List V}, VRs h vs xs → ∀ k : Nat, VRs h (vs.eraseIdx k) (xs.eraseIdx k)
  | _, _, .nil, _ => .nil
  | _, _, .cons a b, 0 => b
  | _, _, .cons a b, k + 1 => .cons a (VRs.erase b k)
theorem CallWP.pop_at {l : Addr} {xs : List V} {k : Int} {j : Nat} {y : V} {Q : V → Store → Prop} (hl : σ l = some (.list xs)) (hk : Builtin.List.listFitsIndex k = true) (hj : seqIndex? k xs.length = some j) (hy : xs[j]? = some y) (hz : xs.length ≤ sizeLine)
    (h : Q y (σ.upd l (.list (xs.eraseIdx j)))) : CallWP C A (.builtin "list.pop") [.ref l, .int k] σ Q X := by
  intro s vs S r
  cases r with
  | cons r1 r2 =>
  cases r2 with
  | cons r2 r3 =>
  cases r3; cases r1; cases r2
  rename_i t
  obtain ⟨items, ⟨n, e⟩, rl⟩ := S.rep _ _ hl
  have el := rl.length
  simp only [Array.length_toList] at el
  obtain ⟨u, hu, ru⟩ := rl.get hy
  have hne : items.isEmpty = false := by
    have : j < xs.length := (List.getElem?_eq_some_iff.mp hy).1
    have h0 : items.size ≠ 0 := by (first | lia | omega)
    simpa [Array.isEmpty] using h0
  refine wpAny_call_entry F.slot_list_pop ⟨_, e, rfl⟩ F.entry_list_pop ?_ (F.args_list_pop_2 _ _)
  show wpAny _ _ (do
    if !Builtin.List.listFitsIndex k then rule "list.pop.index-too-large"; raiseError "OverflowError" "Python int too large to convert to C ssize_t"
    let xs ← Builtin.List.listItems (.ref l)
    if xs.isEmpty then rule "list.pop.empty"; raiseError "IndexError" "pop from empty list"
    match (seqIndex? k xs.size).bind fun k => xs[k]?.map (k, ·) with
    | some (k, x) => Builtin.List.listUpdate (.ref l) (·.eraseIdxIfInBounds k); ret x
    | none => rule "list.pop.out-of-range"; raiseError "IndexError" "pop index out of range") _ _ s
  rw [hk]
  refine wpAny_bind (wpAny_listItems e rfl ?_)
  have hu' : items[j]? = some u := by simpa using hu
  simp only [hne, el, hj, Option.bind_some, hu', Option.map_some, Bool.false_eq_true, if_false]
  refine wpAny_bind (wpAny_updateSeq e rfl (wpAny_pure ⟨_, rfl, ?_⟩) (by (first | lia | omega)) (by show (items.eraseIdxIfInBounds j).size ≤ _; unfold Array.eraseIdxIfInBounds; split <;> (try simp) <;> (first | lia | omega)))
  obtain ⟨S', e'⟩ := upd_list (f := fun x => x.eraseIdxIfInBounds j) S hl e (ys := xs.eraseIdx j) (by
    have : (items.eraseIdxIfInBounds j).toList = items.toList.eraseIdx j := by
      have hj' : j < items.size := by rw [el]; exact (List.getElem?_eq_some_iff.mp hy).1
      simp [Array.eraseIdxIfInBounds, hj', Array.toList_eraseIdx]
    rw [this]; exact rl.erase j)
  exact ⟨y, _, h, ru.mono e'.tup, S', e'⟩

/- remove -/
theorem remove_loop_mine {l : Addr} {items : Array Value} {n j : Nat} {x : Value} (hz : items.size ≤ sizeLine) (hj : j < items.size) : ∀ (k i : Nat) (R : Result → Shared → Prop), j - i = k → i ≤ j → s.heap.get? l = some { cls := .type "list", data := .seq items n } →
    (∀ m (hm : m < items.size), i ≤ m → m < j → EqAt A.in1 s items[m] x false) → EqAt A.in1 s items[j] x true → R (.ok (.ret .none)) { s with heap := s.heap.update l (Obj.mapSeq fun xs => xs.eraseIdxIfInBounds j) } →
    codeAny C.M A (.builtin "list.remove.loop" ⟨[.ref l, x, rawInt i], []⟩) R s := by
  intro k
  induction k with
  | zero =>
    intro i R hk hij e hno hit hR
    have : i = j := by (first | lia | omega)
    subst this
    refine codeAny_builtin MeetsSeq.entry_remove_loop ?_
    rw [Around.under_plainId MeetsSeq.plain_remove_loop _]
    refine wpAny_bind (wpAny_listItems e rfl ?_)
    have hi : items[((i : Nat) : Int).toNat]? = some items[i] := by simp [hj]
    rw [hi]
    refine wpAny_bind (hit C.prog C.w _ _ ?_)
    refine wpAny_bind (wpAny_updateSeq e rfl (wpAny_pure hR) hz ?_)
    show (items.eraseIdxIfInBounds i).size ≤ _
    unfold Array.eraseIdxIfInBounds
    split <;> (try simp) <;> (first | lia | omega)
  | succ k ih =>
    intro i R hk hij e hno hit hR
    have hlt : i < items.size := by (first | lia | omega)
    refine codeAny_builtin MeetsSeq.entry_remove_loop ?_
    rw [Around.under_plainId MeetsSeq.plain_remove_loop _]
    refine wpAny_bind (wpAny_listItems e rfl ?_)
    have hi : items[((i : Nat) : Int).toNat]? = some items[i] := by simp [hlt]
    rw [hi]
    refine wpAny_bind (hno i hlt (Nat.le_refl _) (by (first | lia | omega)) C.prog C.w _ _ ?_)
    refine wpAny_pure ⟨plainId_quiet MeetsSeq.plain_remove_loop _, ?_⟩
    exact ih (i + 1) R (by (first | lia | omega)) (by (first | lia | omega)) e (fun m hm h1 h2 => hno m hm (by (first | lia | omega)) h2) hit hR

theorem DRs.get {xs : List V} {ds : List PyData} (h : DRs C σ xs ds) {i : Nat} {x : V} (e : xs[i]? = some x) : ∃ d, ds[i]? = some d ∧ DR C σ x d := by
  cases h with
  | nil => cases e
  | cons a b =>
    cases i with
    | zero => cases e; exact ⟨_, rfl, a⟩
    | succ i => exact DRs.get b e
theorem DRs.length {xs : List V} {ds : List PyData} : DRs C σ xs ds → xs.length = ds.length
  | .nil => rfl
  | .cons _ b => congrArg (· + 1) (DRs.length b)

theorem canLay_get {ds : List PyData} {i : Nat} {d : PyData} (h : PyData.canLayAll0 ds = true) (e : ds[i]? = some d) : d.canLay0 = true :=
  PyData.canLay0_of_mem ds d h (List.mem_of_getElem? e)
theorem depth_get : ∀ {ds : List PyData} {i : Nat} {d : PyData}, ds[i]? = some d → d.depth ≤ PyData.depthAll ds
  | [], _, _, e => by simp at e
  | _ :: ds, 0, _, e => by simp at e; subst e; exact Nat.le_max_left _ _
  | _ :: ds, i + 1, _, e => Nat.le_trans (depth_get (ds := ds) (i := i) (by simpa using e)) (Nat.le_max_right _ _)

theorem CallWP.remove {l : Addr} {xs : List V} {x : V} {d : PyData} {ds : List PyData} {j : Nat} {Q : V → Store → Prop} (hl : σ l = some (.list xs)) (hx : DR C σ x d) (hy : DRs C σ xs ds) (h1 : d.canLay0 = true) (h2 : PyData.canLayAll0 ds = true)
    (hu : A.units + 1 + min (PyData.depthAll ds) d.depth < cLine) (hz : xs.length ≤ sizeLine) (hj : ds.findIdx? (fun y => PyData.eqv y d) = some j) (h : Q .none (σ.upd l (.list (xs.eraseIdx j)))) : CallWP C A (.builtin "list.remove") [.ref l, x] σ Q X := by
  intro s vs S r
  cases r with
  | cons r1 r2 =>
  cases r2 with
  | @cons v _ _ _ r2 r3 =>
  cases r3; cases r1
  obtain ⟨items, ⟨n, e⟩, rl⟩ := S.rep _ _ hl
  have el := rl.length
  simp only [Array.length_toList] at el
  obtain ⟨hjl, hjt, hjf⟩ := List.findIdx?_eq_some_iff_getElem.mp hj
  have hjs : j < items.size := by rw [el, hy.length]; exact hjl
  obtain ⟨as, rx⟩ := hx.reads S r2
  have at_ : ∀ m (hm : m < items.size), ∃ dm, ds[m]? = some dm ∧ EqAt A.in1 s items[m] v (PyData.eqv dm d) := fun m hm => by
    obtain ⟨y, hy1, hy2⟩ := rl.get' (i := m) (u := items[m]) (by simp [hm])
    obtain ⟨dm, hd1, hd2⟩ := hy.get hy1
    obtain ⟨bs, rd⟩ := hd2.reads S hy2
    refine ⟨dm, hd1, fun prog w E Q hq => eqBoolOverData prog w _ E s _ _ dm d _ _ Q rd rx (canLay_get h2 hd1) h1 ?_ hq⟩
    have := depth_get hd1
    show A.units + 1 + _ < _
    (first | lia | omega)
  refine wpAny_call (codeAny_call_builtin F.slot_list_remove.plain F.entry_list_remove (F.slot_list_remove.check _ _ _ _ _ _ _ _ ⟨_, e, rfl⟩ (F.args_list_remove_2 _ _) ?_))
  refine wpAny_pure ⟨plainId_quiet MeetsSeq.plain_remove_loop _, ?_⟩
  refine remove_loop_mine (j := j) (by (first | lia | omega)) hjs _ 0 _ rfl (Nat.zero_le _) e (fun m hm _ hmj => ?_) ?_ ?_
  · obtain ⟨dm, hd1, hd2⟩ := at_ m hm
    have hf := hjf m hmj
    have : ds[m]? = some ds[m] := by simp
    rw [this] at hd1; cases hd1
    rw [Bool.not_eq_true] at hf
    rw [hf] at hd2; exact hd2
  · obtain ⟨dm, hd1, hd2⟩ := at_ j hjs
    have : ds[j]? = some ds[j] := by simp
    rw [this] at hd1; cases hd1
    rw [hjt] at hd2; exact hd2
  · obtain ⟨S', e'⟩ := upd_list (f := fun x => x.eraseIdxIfInBounds j) S hl e (ys := xs.eraseIdx j) (by
      have : (items.eraseIdxIfInBounds j).toList = items.toList.eraseIdx j := by
        simp [Array.eraseIdxIfInBounds, hjs, Array.toList_eraseIdx]
      rw [this]; exact rl.erase j)
    exact ⟨.none, _, h, .none, S', e'⟩

end

end Mine

set_option autoImplicit false
set_option linter.unusedVariables false
namespace Mine
open PySem PySem.W PySem.SeqAt

inductive Ty where
  | none | bool | int | str | tup | list | dict
def Ty.name : Ty → String
  | .none => "NoneType" | .bool => "bool" | .int => "int" | .str => "str" | .tup => "tuple" | .list => "list" | .dict => "dict"
inductive HasTy (C : Cx) (σ : Store) : V → Ty → Prop
  | none : HasTy C σ .none .none
  | bool (b : Bool) : HasTy C σ (.bool b) .bool
  | int (i : Int) : HasTy C σ (.int i) .int
  | str (x : Str) : HasTy C σ (.str x) .str
  | tup (xs : List V) : HasTy C σ (.tup xs) .tup
  | list {l : Addr} {xs : List V} : LstAt C σ l xs → HasTy C σ (.ref l) .list
  | sd {l : Addr} {xs : List (Str × V)} : σ l = some (.sd xs) → HasTy C σ (.ref l) .dict
  | id {l : Addr} {xs : List (Int × V)} : σ l = some (.id xs) → HasTy C σ (.ref l) .dict
def isiB : Ty → String → Bool
  | .bool, "int" => true
  | .bool, "bool" => true
  | .int, "int" => true
  | .str, "str" => true
  | .tup, "tuple" => true
  | .list, "list" => true
  | _, _ => false

section
variable {C : Cx} {A : Around} {env : Env} {ρ : Rho} {σ : Store} {X : XP} {s : Shared}

/-- how the heap bears a value's type -/
def Bears (s : Shared) (v : Value) : Ty → Prop
  | .none => v = .none
  | .bool => ∃ b, v = .bool b
  | .int => ∃ i t, v = .int i t
  | .str => ∃ x t, v = .str x t
  | .tup => ∃ a o, v = .ref a ∧ s.heap.get? a = some o ∧ o.cls = .type "tuple"
  | .list => ∃ a o, v = .ref a ∧ s.heap.get? a = some o ∧ o.cls = .type "list"
  | .dict => ∃ a o, v = .ref a ∧ s.heap.get? a = some o ∧ o.cls = .type "dict"
theorem HasTy.bears {x : V} {t : Ty} (h : HasTy C σ x t) {v : Value} (S : St C σ s) (r : VR s.heap v x) : Bears s v t := by
  cases h with
  | none => cases r; rfl
  | bool b => cases r; exact ⟨_, rfl⟩
  | int i => cases r; exact ⟨_, _, rfl⟩
  | str i => cases r; exact ⟨_, _, rfl⟩
  | tup xs => cases r with | tup e _ => exact ⟨_, _, rfl, e, rfl⟩
  | list hl =>
    cases r
    obtain ⟨items, ⟨o, e, c, _⟩, _⟩ := hl.raw S
    exact ⟨_, _, rfl, e, c⟩
  | sd hl =>
    cases r
    obtain ⟨kvs, D, _⟩ := S.rep _ _ hl
    obtain ⟨o, e, c⟩ := D.typeIs (s := s)
    exact ⟨_, _, rfl, e, c⟩
  | id hl =>
    cases r
    obtain ⟨kvs, D, _⟩ := S.rep _ _ hl
    obtain ⟨o, e, c⟩ := D.typeIs (s := s)
    exact ⟨_, _, rfl, e, c⟩

theorem isi_raw {v : Value} {t : Ty} {U : String} {Q : Value → Shared → Prop} {E : XP} (b : Bears s v t) (hU : U = "int" ∨ U = "bool" ∨ U = "str" ∨ U = "list" ∨ U = "tuple") (h : ∀ tk, Q (.bool (isiB t U)) { s with toks := tk }) :
    wpAny C.M A (call (.builtin "isinstance") [v, .type U]) Q E s := by
  rcases hU with rfl | rfl | rfl | rfl | rfl
  · cases t with
    | none => subst b; exact call_isinstance (isinstance_false_none (by decide +kernel) F.isi_meta_int F.sub_NoneType_int) (h _)
    | bool => obtain ⟨_, rfl⟩ := b; exact call_isinstance (isinstance_true (Tx := "bool") F.isi_meta_int F.sub_bool_int) ⟨rfl, h s.toks⟩
    | int => obtain ⟨_, _, rfl⟩ := b; exact call_isinstance (isinstance_true (Tx := "int") F.isi_meta_int F.sub_int_int) ⟨rfl, h s.toks⟩
    | str => obtain ⟨_, _, rfl⟩ := b; exact call_isinstance (isinstance_false_str (by decide +kernel) F.isi_meta_int F.sub_str_int) (h _)
    | tup => obtain ⟨a, o, rfl, e, hc⟩ := b; exact call_isinstance (isinstance_false_tuple (by decide +kernel) F.isi_meta_int F.sub_tuple_int) ⟨⟨o, e, hc⟩, h _⟩
    | list => obtain ⟨a, o, rfl, e, hc⟩ := b; exact call_isinstance (isinstance_false_list (by decide +kernel) F.isi_meta_int F.sub_list_int) ⟨⟨o, e, hc⟩, h _⟩
    | dict => obtain ⟨a, o, rfl, e, hc⟩ := b; exact call_isinstance (isinstance_false_dict (by decide +kernel) F.isi_meta_int F.sub_dict_int) ⟨⟨o, e, hc⟩, h _⟩
  · cases t with
    | none => subst b; exact call_isinstance (isinstance_false_none (by decide +kernel) F.isi_meta_bool F.sub_NoneType_bool) (h _)
    | bool => obtain ⟨_, rfl⟩ := b; exact call_isinstance (isinstance_true (Tx := "bool") F.isi_meta_bool F.sub_bool_bool) ⟨rfl, h s.toks⟩
    | int => obtain ⟨_, _, rfl⟩ := b; exact call_isinstance (isinstance_false_int (by decide +kernel) F.isi_meta_bool F.sub_int_bool) (h _)
    | str => obtain ⟨_, _, rfl⟩ := b; exact call_isinstance (isinstance_false_str (by decide +kernel) F.isi_meta_bool F.sub_str_bool) (h _)
    | tup => obtain ⟨a, o, rfl, e, hc⟩ := b; exact call_isinstance (isinstance_false_tuple (by decide +kernel) F.isi_meta_bool F.sub_tuple_bool) ⟨⟨o, e, hc⟩, h _⟩
    | list => obtain ⟨a, o, rfl, e, hc⟩ := b; exact call_isinstance (isinstance_false_list (by decide +kernel) F.isi_meta_bool F.sub_list_bool) ⟨⟨o, e, hc⟩, h _⟩
    | dict => obtain ⟨a, o, rfl, e, hc⟩ := b; exact call_isinstance (isinstance_false_dict (by decide +kernel) F.isi_meta_bool F.sub_dict_bool) ⟨⟨o, e, hc⟩, h _⟩
  · cases t with
    | none => subst b; exact call_isinstance (isinstance_false_none (by decide +kernel) F.isi_meta_str F.sub_NoneType_str) (h _)
    | bool => obtain ⟨_, rfl⟩ := b; exact call_isinstance (isinstance_false_bool (by decide +kernel) F.isi_meta_str F.sub_bool_str) (h _)
    | int => obtain ⟨_, _, rfl⟩ := b; exact call_isinstance (isinstance_false_int (by decide +kernel) F.isi_meta_str F.sub_int_str) (h _)
    | str => obtain ⟨_, _, rfl⟩ := b; exact call_isinstance (isinstance_true (Tx := "str") F.isi_meta_str F.sub_str_str) ⟨rfl, h s.toks⟩
    | tup => obtain ⟨a, o, rfl, e, hc⟩ := b; exact call_isinstance (isinstance_false_tuple (by decide +kernel) F.isi_meta_str F.sub_tuple_str) ⟨⟨o, e, hc⟩, h _⟩
    | list => obtain ⟨a, o, rfl, e, hc⟩ := b; exact call_isinstance (isinstance_false_list (by decide +kernel) F.isi_meta_str F.sub_list_str) ⟨⟨o, e, hc⟩, h _⟩
    | dict => obtain ⟨a, o, rfl, e, hc⟩ := b; exact call_isinstance (isinstance_false_dict (by decide +kernel) F.isi_meta_str F.sub_dict_str) ⟨⟨o, e, hc⟩, h _⟩
  · cases t with
    | none => subst b; exact call_isinstance (isinstance_false_none (by decide +kernel) F.isi_meta_list F.sub_NoneType_list) (h _)
    | bool => obtain ⟨_, rfl⟩ := b; exact call_isinstance (isinstance_false_bool (by decide +kernel) F.isi_meta_list F.sub_bool_list) (h _)
    | int => obtain ⟨_, _, rfl⟩ := b; exact call_isinstance (isinstance_false_int (by decide +kernel) F.isi_meta_list F.sub_int_list) (h _)
    | str => obtain ⟨_, _, rfl⟩ := b; exact call_isinstance (isinstance_false_str (by decide +kernel) F.isi_meta_list F.sub_str_list) (h _)
    | tup => obtain ⟨a, o, rfl, e, hc⟩ := b; exact call_isinstance (isinstance_false_tuple (by decide +kernel) F.isi_meta_list F.sub_tuple_list) ⟨⟨o, e, hc⟩, h _⟩
    | list => obtain ⟨a, o, rfl, e, hc⟩ := b; exact call_isinstance (isinstance_true (Tx := "list") F.isi_meta_list F.sub_list_list) ⟨⟨o, e, hc⟩, h s.toks⟩
    | dict => obtain ⟨a, o, rfl, e, hc⟩ := b; exact call_isinstance (isinstance_false_dict (by decide +kernel) F.isi_meta_list F.sub_dict_list) ⟨⟨o, e, hc⟩, h _⟩
  · cases t with
    | none => subst b; exact call_isinstance (isinstance_false_none (by decide +kernel) F.isi_meta_tuple F.sub_NoneType_tuple) (h _)
    | bool => obtain ⟨_, rfl⟩ := b; exact call_isinstance (isinstance_false_bool (by decide +kernel) F.isi_meta_tuple F.sub_bool_tuple) (h _)
    | int => obtain ⟨_, _, rfl⟩ := b; exact call_isinstance (isinstance_false_int (by decide +kernel) F.isi_meta_tuple F.sub_int_tuple) (h _)
    | str => obtain ⟨_, _, rfl⟩ := b; exact call_isinstance (isinstance_false_str (by decide +kernel) F.isi_meta_tuple F.sub_str_tuple) (h _)
    | tup => obtain ⟨a, o, rfl, e, hc⟩ := b; exact call_isinstance (isinstance_true (Tx := "tuple") F.isi_meta_tuple F.sub_tuple_tuple) ⟨⟨o, e, hc⟩, h s.toks⟩
    | list => obtain ⟨a, o, rfl, e, hc⟩ := b; exact call_isinstance (isinstance_false_list (by decide +kernel) F.isi_meta_tuple F.sub_list_tuple) ⟨⟨o, e, hc⟩, h _⟩
    | dict => obtain ⟨a, o, rfl, e, hc⟩ := b; exact call_isinstance (isinstance_false_dict (by decide +kernel) F.isi_meta_tuple F.sub_dict_tuple) ⟨⟨o, e, hc⟩, h _⟩

theorem CallWP.isi {x : V} {t : Ty} {U : String} {Q : V → Store → Prop} (ht : HasTy C σ x t) (hU : U = "int" ∨ U = "bool" ∨ U = "str" ∨ U = "list" ∨ U = "tuple") (h : Q (.bool (isiB t U)) σ) : CallWP C A (.builtin "isinstance") [x, .typ U] σ Q X := by
  intro s vs S r
  cases r with
  | cons r1 r2 =>
  cases r2 with
  | cons r2 r3 =>
  cases r3; cases r2
  exact isi_raw (ht.bears S r1) hU fun tk => EP.pureT S h (.bool _)

/- list(), tuple() -/
theorem CallWP.listOf {l : Addr} {xs : List V} {Q : V → Store → Prop} (hl : LstAt C σ l xs) (hz : xs.length ≤ sizeLine) (h : ∀ a, σ a = Option.none → Q (.ref a) (σ.upd a (.list xs))) : CallWP C A (.type "list") [.ref l] σ Q X := by
  intro s vs S r
  cases r with
  | cons r1 r2 =>
  cases r2; cases r1
  obtain ⟨items, ⟨o, e, c, n, hd⟩, rl⟩ := hl.raw S
  have el := rl.length
  simp only [Array.length_toList] at el
  refine call_list_seq l (.inl rfl) e c hd (fun h' c' kp e' => ?_) (by (first | lia | omega))
  have S' : St C σ { s with heap := h', toks := s.toks } := S.ext kp
  obtain ⟨S2, e2⟩ := S'.adopt (a := s.heap.objs.size) (o := .list xs) (σ0 := σ) (h0 := s.heap) ⟨items, ⟨c', e'⟩, rl.mono fun _ _ _ q => kp _ _ q⟩ S.size (.ext kp) (get?_fresh _)
  exact ⟨.ref _, _, h _ S.fresh, .ref _, S2, e2⟩
theorem CallWP.listOfTup {xs : List V} {Q : V → Store → Prop} (hz : xs.length ≤ sizeLine) (h : ∀ a, σ a = Option.none → Q (.ref a) (σ.upd a (.list xs))) : CallWP C A (.type "list") [.tup xs] σ Q X := by
  intro s vs S r
  cases r with
  | cons r1 r2 =>
  cases r2
  cases r1 with
  | @tup a items n _ e rl =>
  have el := rl.length
  simp only [Array.length_toList] at el
  refine call_list_seq a (.inr rfl) e rfl rfl (fun h' c' kp e' => ?_) (by (first | lia | omega))
  have S' : St C σ { s with heap := h', toks := s.toks } := S.ext kp
  obtain ⟨S2, e2⟩ := S'.adopt (a := s.heap.objs.size) (o := .list xs) (σ0 := σ) (h0 := s.heap) ⟨items, ⟨c', e'⟩, rl.mono fun _ _ _ q => kp _ _ q⟩ S.size (.ext kp) (get?_fresh _)
  exact ⟨.ref _, _, h _ S.fresh, .ref _, S2, e2⟩
theorem CallWP.tupOf {l : Addr} {xs : List V} {Q : V → Store → Prop} (hl : LstAt C σ l xs) (hz : xs.length ≤ sizeLine) (h : Q (.tup xs) σ) : CallWP C A (.type "tuple") [.ref l] σ Q X := by
  intro s vs S r
  cases r with
  | cons r1 r2 =>
  cases r2; cases r1
  obtain ⟨items, il, rl⟩ := hl.raw S
  have el := rl.length
  simp only [Array.length_toList] at el
  refine call_tuple_list il (fun h' kp => ?_) (by (first | lia | omega))
  have S' : St C σ { s with heap := h', toks := s.toks } := S.ext kp
  exact ⟨.tup xs, σ, h, .tup (n := 0) (Heap.get?_push_size _ rfl) ((rl.mono fun _ _ _ q => kp _ _ q).push), S'.push, (Evo.ext kp).trans .push⟩
/- len, abs -/
theorem CallWP.len_tup {xs : List V} {Q : V → Store → Prop} (hz : xs.length < 2 ^ 62) (h : Q (.int xs.length) σ) : CallWP C A (.builtin "len") [.tup xs] σ Q X := by
  intro s vs S r
  cases r with
  | cons r1 r2 =>
  cases r2
  cases r1 with
  | @tup a items n _ e rl =>
  have el := rl.length
  simp only [Array.length_toList] at el
  refine PyProof.Rows.len_tuple (t := a) (items := items) ⟨_, e, rfl, n, rfl⟩ (by (first | lia | omega)) ⟨_, σ, h, ?_, S.toks _, .refl ..⟩
  rw [el]; exact .int _ _
theorem CallWP.len_str {x : Str} {Q : V → Store → Prop} (hz : x.length < 2 ^ 62) (h : Q (.int x.length) σ) : CallWP C A (.builtin "len") [.str x] σ Q X := by
  intro s vs S r
  cases r with
  | cons r1 r2 =>
  cases r2
  cases r1
  exact PyProof.Rows.len_str (by (first | lia | omega)) ⟨_, σ, h, .int _ _, S.toks _, .refl ..⟩
end

end Mine

set_option autoImplicit false
set_option linter.unusedVariables false
namespace Mine
open PySem PySem.W PySem.SeqAt

section
variable {C : Cx} {A : Around} {env : Env} {ρ : Rho} {σ : Store} {X : XP} {s : Shared}

theorem BinWP.cat {l b : Addr} {xs ys : List V} {Q : V → Store → Prop} (hl : LstAt C σ l xs) (hb : LstAt C σ b ys) (hz : xs.length + ys.length ≤ sizeLine) (h : ∀ a, σ a = none → Q (.ref a) (σ.upd a (.list (xs ++ ys)))) :
    BinWP C A .Add (.ref l) (.ref b) σ Q X := by
  intro s u v S r1 r2
  cases r1; cases r2
  obtain ⟨items, ⟨⟨c1, d1, t1, s1⟩, ho, hc, n, hd⟩, rl⟩ := hl.raw S
  obtain ⟨items2, ⟨⟨c2, d2, t2, s2⟩, ho2, hc2, n2, hd2⟩, rl2⟩ := hb.raw S
  have el := rl.length
  have el2 := rl2.length
  simp only [Array.length_toList] at el el2
  dsimp only at hc hd hc2 hd2
  subst hc hd hc2 hd2
  refine concat_meets ⟨_, ho, rfl⟩ ⟨_, ho2, rfl⟩ noFill_list_add seq_list_add PySem.F.slot_list_add PySem.F.entry_list_add (PySem.F.args_list_add_2 _ _) (PyProof.Rows.list_addW l b items items2 n n2 d1 d2 s1 s2 (by (first | lia | omega))) ⟨ho, ho2, ?_⟩
  obtain ⟨S2, e2⟩ := S.new (t := s.toks) (x := { cls := .type "list", data := .seq (items ++ items2) }) (o := .list (xs ++ ys)) ⟨_, ⟨0, Heap.get?_push_size _ rfl⟩, by simp only [Array.toList_append]; exact (rl.append rl2).push⟩
  exact ⟨.ref _, _, h _ S.fresh, .ref _, S2, e2⟩

/- texts -/
/- dicts -/
theorem Ev.dict0 {pos : Pos} {Q : V → Store → Prop} (h : ∀ a, σ a = none → Q (.ref a) (σ.upd a (.sd []))) : Ev C A env (.Dict [] [] pos) ρ σ Q X := by
  intro s S F
  refine wpAny_Dict_empty ?_
  obtain ⟨S2, e2⟩ := S.new (t := s.toks) (x := { cls := .type "dict", data := .dict #[] }) (o := .sd []) ⟨[], Heap.DictOf.new _, .nil⟩
  exact ⟨.ref _, _, h _ S.fresh, .ref _, S2, e2⟩
/-- the store of an item -/
def SetWP (C : Cx) (A : Around) (o i y : V) (σ : Store) (Q : Store → Prop) (X : XP) : Prop :=
  ∀ s a b v, St C σ s → VR s.heap a o → VR s.heap b i → VR s.heap v y → wpAny C.M A (setItem a b v) (fun _ s' => ∃ σ', Q σ' ∧ St C σ' s' ∧ Evo σ s.heap σ' s'.heap) X s
theorem assign_sub (o i : Expr) (pos : Pos) (env : Env) (v : Value) : assign (.Subscript o i pos) env v = (do
    let ov ← holding [v] (eval o env)
    let iv ← holding [v, ov] (eval i env)
    standAt pos
    holding [v, ov, iv] (setItem ov iv v)
    release (match i with | .Slice _ _ none _ => [iv, v, ov] | _ => [v, ov, iv]) []) := rfl
theorem Asg.sub {o i : Expr} {pos : Pos} {y : V} {Q : Rho → Store → Prop} (h : Ev C A env o ρ σ (fun x σ1 => Ev C A env i ρ σ1 (fun z σ2 => SetWP C A x z y σ2 (fun σ3 => Q ρ σ3) X) X) X) : Asg C A env (.Subscript o i pos) y ρ σ Q X := by
  intro s v S F r
  rw [assign_sub]
  refine wpAny_bind (wpAny_holding (wpAny_mono (h s S F) ?_ fun _ _ z => z))
  rintro ov s1 ⟨x, σ1, h1, r1, S1, e1⟩
  refine wpAny_bind (wpAny_holding (wpAny_mono (h1 s1 S1 (F.evo e1)) ?_ fun _ _ z => z))
  rintro iv s2 ⟨z, σ2, h2, r2, S2, e2⟩
  refine wpAny_bind (wpAny_standAt (wpAny_bind (wpAny_holding (wpAny_mono (h2 s2 ov iv v S2 (r1.mono e2.tup) r2 ((r.mono e1.tup).mono e2.tup)) ?_ fun _ _ z => z))))
  rintro _ s3 ⟨σ3, q, S3, e3⟩
  have e := (e1.trans e2).trans e3
  exact PyProof.Rows.wpAny_release' ⟨ρ, σ3, q, S3, F.evo e, e.evoF F.own⟩

theorem SetWP.sd {d : Addr} {es : List (Str × V)} {k : Str} {y : V} {Q : Store → Prop} (hd : σ d = some (.sd es)) (hz : es.length ≤ sizeLine) (h : Q (σ.upd d (.sd (sput es k y)))) : SetWP C A (.ref d) (.str k) y σ Q X := by
  intro s a b v S ra rb rv
  cases ra; cases rb
  obtain ⟨kvs, D, pr⟩ := S.rep _ _ hd
  have hnd : (kvs.map (·.1)).Nodup := by obtain ⟨_, _, _, _, _, _, _, _, hn⟩ := D; exact hn
  refine wpAny_setItem_pairs (knd := strKind C.prog C.w) (k := k) (by show (k == k) = true; simp) D (fun h' D' sb => ?_) (by rw [pr.length]; exact hz)
  have tk : TupKeep s.heap h' := tupKeep_sameBut sb (S.rep _ _ hd).notTup
  obtain ⟨S2, e2⟩ := S.set (t := s.toks + 1) (o' := .sd (sput es k y)) hd sb ⟨_, D', PR.stored (rv.mono tk) (pr.mono tk) hnd⟩
  exact ⟨_, h, S2, e2⟩
def iput : List (Int × V) → Int → V → List (Int × V)
  | [], x, v => [(x, v)]
  | (y, u) :: r, x, v => if x = y then (x, v) :: r else (y, u) :: iput r x v
/- in a dict -/
def SysOk (C : Cx) : Prop := sysModules < C.n₀ ∧ sysModules ∉ C.tabs ∧ ¬ C.loose
theorem St.notSys {a : Addr} {o : O} (S : St C σ s) (hn : SysOk C) (h : σ a = some o) : (a == sysModules) = false := by
  refine beq_eq_false_iff_ne.mpr fun q => ?_
  rcases (S.above a o h).2 with this | this | this
  · rw [q] at this; exact absurd hn.1 (Nat.not_lt.mpr this)
  · rw [q] at this; exact hn.2.1 this
  · exact hn.2.2 this
theorem valueAt_isSome {K : Type} [DecidableEq K] {h : Heap} {x : K} : ∀ {kvs : List (K × Value)} {es : List (K × V)}, PR h kvs es → (valueAt kvs x).isSome = ((es.find? fun p => decide (p.1 = x)).map (·.2)).isSome
  | _, _, .nil => rfl
  | _, _, .cons (k := k) r rs => by
    unfold valueAt
    by_cases q : k = x
    · subst q; simp
    · simp only [List.find?_cons, q, decide_false]
      exact valueAt_isSome rs
theorem CmpWP.inSd {d : Addr} {es : List (Str × V)} {k : Str} {Q : V → Store → Prop} (hd : σ d = some (.sd es)) (hn : SysOk C) (h : Q (.bool (sget es k).isSome) σ) : CmpWP C A .In (.str k) (.ref d) σ Q X := by
  intro s a b S ra rb
  cases ra; cases rb
  obtain ⟨kvs, D, pr⟩ := S.rep _ _ hd
  refine wpAny_in_of (knd := strKind C.prog C.w) (k := k) (by show (k == k) = true; simp) (S.notSys hn hd) D.mapOf (EP.pureT S ?_ (.bool _))
  rw [valueAt_isSome pr]; exact h
end

end Mine

set_option autoImplicit false
set_option linter.unusedVariables false
namespace Mine
open PySem PySem.W PySem.SeqAt PyProof.Rows

section
variable {C : Cx} {A : Around} {env : Env} {ρ : Rho} {σ : Store} {X : XP} {s : Shared}

theorem ofS_ne {a b : String} (h : a ≠ b) : Str.ofString a ≠ Str.ofString b := by
  intro e
  rw [Str.ofString_eq_toList, Str.ofString_eq_toList] at e
  injection e with e
  have e1 : a.toList.map Char.toNat = b.toList.map Char.toNat := by
    have := congrArg Array.toList e; simpa using this
  have inj : Function.Injective Char.toNat := fun x y hxy => by
    have : x.val.toNat = y.val.toNat := hxy
    exact Char.ext (UInt32.toNat_inj.mp this)
  have e2 : a.toList = b.toList := by
    have : ∀ (l m : List Char), l.map Char.toNat = m.map Char.toNat → l = m := by
      intro l
      induction l with
      | nil => intro m hm; cases m with | nil => rfl | cons _ _ => simp at hm
      | cons x l ih =>
        intro m hm
        cases m with
        | nil => simp at hm
        | cons y m =>
          simp only [List.map_cons, List.cons.injEq] at hm
          rw [inj hm.1, ih m hm.2]
    exact this _ _ e1
  exact h (by rw [← String.ofList_toList (s := a), ← String.ofList_toList (s := b), e2])

/-- a call of a def of the text -/
theorem CallWP.fnK {f : Addr} {name qual : Str} {params : Arguments} {body : List Stmt} {scope : Scope} {dV kV doc pm cdv ct oc : Value} {an od : Option Addr} {osl : Array (Option Value)} {names : List Str} {args : List V} {Q : V → Store → Prop}
    (ho : C.K.lookup f = some ⟨oc, od, .func (fnOf name qual params body scope dV kV doc pm an cdv ct), osl⟩) (hcd : codeIn C.K cdv qual = true)
    (hroom : A.depth < recursionLimit)
    (h : ∀ L, Exs C (A.deeper (callEnvC (fnOf name qual params body scope dV kV doc pm an cdv ct) L f)) (callEnvC (fnOf name qual params body scope dV kV doc pm an cdv ct) L f) body (names.zip args) σ (fun g _ σ' => Q g.val σ') (fun _ _ => False))
    (hbind : ∀ vals : List Value, vals.length = args.length → bindArgs (fnOf name qual params body scope dV kV doc pm an cdv ct) ⟨vals, []⟩ = pure (names.zip vals)) (nd : names.Nodup)
    (hkind : (names.all fun y => scope.names.lookup y == some .local || scope.names.lookup y == some .cell) = true) (hsc : scopeOk scope = true) (hco : scope.isCoroutine = false) (hgen : scope.isGenerator = false) (hk : scope.kind = .function) :
    CallWP C A (.ref f) args σ Q X := by
  refine CallWP.fn (C.KX _ _ ho) rfl C.lim (codeRec_of C.KX hcd) rfl hbind rfl nd (fun x hx => ?_) hroom hsc hco hgen hk h
  have := List.all_eq_true.mp hkind x hx
  rcases Bool.or_eq_true_iff.mp this with q | q
  · exact .inl (by simpa using q)
  · have q' : scope.names.lookup x = some .cell := by simpa using q
    exact .inr ⟨q', fun L => cellsFrom_some _ _ _ (.inl q')⟩
end
end Mine

set_option autoImplicit false
set_option linter.unusedVariables false
namespace Mine
open PySem PySem.W PySem.SeqAt PyProof.Rows

/-- a frame's surroundings, its table of names apart -/
abbrev mkE (sc : Scope) (L : Addr) (cells : List (Str × Addr)) (q : Str) (fn : Option Addr) (cd : Value) (fr : Option Addr) : Env :=
  { scope := sc, locals := L, globals := mainGlobals, cells := cells, qual := q, func := fn, code := cd, frame := fr, builtins := builtinsNs }
/-- a comprehension's table of names -/
def reS (scope sc : Scope) : Scope := { scope with names := scope.names.map fun (n, k) => if (k == .free && sc.kind == .function && sc.names.lookup n == some .cell) then (n, .cell) else (n, k) }
section
variable {C : Cx} {A : Around} {ρ : Rho} {σ : Store} {X : XP} {s : Shared} {sc : Scope} {L : Addr} {cells : List (Str × Addr)} {q : Str} {fn : Option Addr} {cd : Value} {fr : Option Addr}

theorem Ev.nloc {x : Str} {pos : Pos} {v : V} {Q : V → Store → Prop} (hk : sc.names.lookup x = some .local) (hv : ρ.get x = some v) (h : Q v σ) (hd : (x == ("__debug__" : Str)) = false := by kernel_rfl) : Ev C A (mkE sc L cells q fn cd fr) (.Name x pos) ρ σ Q X :=
  Ev.loc hk hv h hd
theorem Ev.ncel {x : Str} {pos : Pos} {v : V} {Q : V → Store → Prop} (hk : sc.names.lookup x = some .cell) (hv : ρ.get x = some v) (h : Q v σ) (hc : (cells.lookup x).isSome = true := by kernel_rfl) (hd : (x == ("__debug__" : Str)) = false := by kernel_rfl) : Ev C A (mkE sc L cells q fn cd fr) (.Name x pos) ρ σ Q X := by
  obtain ⟨c, hc⟩ := Option.isSome_iff_exists.mp hc
  exact Ev.cel hk hc hv h hd
theorem Ev.nglob {x : Str} {pos : Pos} {v : Value} {y : V} {Q : V → Store → Prop} (hk : sc.names.lookup x = some .globalImplicit) (e : nsIn C.K mainGlobals x = some (some v)) (r : VR C.h₀ v y) (h : Q y σ) (hd : (x == ("__debug__" : Str)) = false := by kernel_rfl) :
    Ev C A (mkE sc L cells q fn cd fr) (.Name x pos) ρ σ Q X := Ev.glob hk e r h rfl hd
theorem Ev.nblt {x : Str} {pos : Pos} {v : Value} {y : V} {Q : V → Store → Prop} (hk : sc.names.lookup x = some .globalImplicit) (e : nsIn C.K mainGlobals x = some none) (hv : bootBuiltins x = some v) (r : VR C.h₀ v y) (h : Q y σ) (hn : x ≠ "__name__") (hd : (x == ("__debug__" : Str)) = false := by kernel_rfl) :
    Ev C A (mkE sc L cells q fn cd fr) (.Name x pos) ρ σ Q X := Ev.gblt hk e hv r h hn rfl rfl hd
theorem Asg.nloc {x : Str} {pos : Pos} {y : V} {ρ' : Rho} {Q : Rho → Store → Prop} (hk : sc.names.lookup x = some .local) (hp : ρ.put x y = ρ') (h : Q ρ' σ) (hc : cells.lookup x = none := by kernel_rfl) :
    Asg C A (mkE sc L cells q fn cd fr) (.Name x pos) y ρ σ Q X := Asg.loc hk hc hp h
theorem Asg.ncel {x : Str} {pos : Pos} {y : V} {ρ' : Rho} {Q : Rho → Store → Prop} (hk : sc.names.lookup x = some .cell) (hp : ρ.put x y = ρ') (h : Q ρ' σ) (hc : (cells.lookup x).isSome = true := by kernel_rfl) :
    Asg C A (mkE sc L cells q fn cd fr) (.Name x pos) y ρ σ Q X := by
  obtain ⟨c, hc⟩ := Option.isSome_iff_exists.mp hc
  exact Asg.cel hk hc hp h

theorem Then.next {env : Env} {ss : List Stmt} {Q : FV → Rho → Store → Prop} (h : Exs C A env ss ρ σ Q X) : Then C A env ss Q X .next ρ σ := h
theorem Then.ret {env : Env} {ss : List Stmt} {v : V} {Q : FV → Rho → Store → Prop} (h : Q (.ret v) ρ σ) : Then C A env ss Q X (.ret v) ρ σ := h
/-- a call of a def of the text -/
theorem CallWP.def {f : Addr} {name qual : Str} {params : Arguments} {body : List Stmt} {scope : Scope} {dV kV doc pm cdv ct oc : Value} {an od : Option Addr} {osl : Array (Option Value)} (names : List Str) {args : List V} {Q : V → Store → Prop}
    (ho : C.K.lookup f = some ⟨oc, od, .func (fnOf name qual params body scope dV kV doc pm an cdv ct), osl⟩) (hcd : codeIn C.K cdv qual = true)
    (hroom : A.depth < recursionLimit)
    (hbind : ∀ vals : List Value, vals.length = args.length → bindArgs (fnOf name qual params body scope dV kV doc pm an cdv ct) ⟨vals, []⟩ = pure (names.zip vals)) (nd : names.Nodup)
    (hkind : (names.all fun y => scope.names.lookup y == some .local || scope.names.lookup y == some .cell) = true) (hsc : scopeOk scope = true) (hco : scope.isCoroutine = false) (hgen : scope.isGenerator = false) (hk : scope.kind = .function)
    (h : ∀ L A', A'.handled = A.handled → A'.depth = A.depth + 1 → A'.units = A.units + 3 → Exs C A' (mkE scope L (cellsFrom (L + 1) scope.names []) (qual ++ ".<locals>.") (some f) cdv (some L)) body (names.zip args) σ (fun g _ σ' => Q g.val σ') (fun _ _ => False)) :
    CallWP C A (.ref f) args σ Q X :=
  CallWP.fnK ho hcd hroom (fun L => h L _ rfl rfl rfl) hbind nd hkind hsc hco hgen hk

/-- a comprehension -/
theorem Ev.lcomp {x : Str} {px pos : Pos} {elt iter : Expr} {ifs : List Expr} {scope : Scope} {ρc : Rho} {Q : V → Store → Prop} (cap : Capt ρ scope.names ρc) (hx : scope.names.lookup x = some .local) (hck : compOk scope = true) (hk : scope.kind = .function)
    (h : Src C A (mkE sc L cells q fn cd fr) (.Name x px) iter ρ σ (fun xs ok σ1 => ∀ L', CmpL C A (mkE (reS scope sc) L' (clOf cells scope.names []) q none cd fr) x ifs elt ok ρc (fun out σ2 => ∀ a, σ2 a = Option.none → Q (.ref a) (σ2.upd a (.list out))) xs [] σ1) X)
    (hfree : (scope.names.all fun p => p.2 != .free || (cells.lookup p.1).isSome) = true := by kernel_rfl) 
    (hs : ∀ x, foldedSetIterable iter (mkE sc L cells q fn cd fr) x = Pure.pure x := by intro _; kernel_rfl) : Ev C A (mkE sc L cells q fn cd fr) (.ListComp elt [⟨.Name x px, iter, ifs, 0⟩] scope pos) ρ σ Q X :=
  Ev.comp hfree hck hk hx cap h hs
theorem Ex.lassign {x y : Str} {px py pos spos : Pos} {elt iter : Expr} {ifs : List Expr} {scope : Scope} {ρc : Rho} {Q : FV → Rho → Store → Prop} (cap : Capt ρ scope.names ρc) (hx : scope.names.lookup x = some .local) (hck : compOk scope = true) (hk : scope.kind = .function)
    (hy : sc.names.lookup y = some .local)
    (h : Src C A (mkE sc L cells q fn cd fr) (.Name x px) iter ρ σ (fun xs ok σ1 => ∀ L', CmpL C A (mkE (reS scope sc) L' (clOf cells scope.names []) q none cd fr) x ifs elt ok ρc (fun out σ2 => ∀ a, σ2 a = none → Q .next (ρ.put y (.ref a)) (σ2.upd a (.list out))) xs [] σ1) X)
    (hsw : swapsWith (.ListComp elt [⟨.Name x px, iter, ifs, 0⟩] scope pos) (some (.Name y py)) spos.line (mkE sc L cells q fn cd fr) = pure true := by kernel_rfl)
    (hfree : (scope.names.all fun p => p.2 != .free || (cells.lookup p.1).isSome) = true := by kernel_rfl) (hyc : cells.lookup y = none := by kernel_rfl)
    (hs : ∀ x, foldedSetIterable iter (mkE sc L cells q fn cd fr) x = pure x := by intro _; kernel_rfl) : Ex C A (mkE sc L cells q fn cd fr) (.Assign [.Name y py] (.ListComp elt [⟨.Name x px, iter, ifs, 0⟩] scope pos) spos) ρ σ Q X :=
  Ex.assignComp hfree hck hk hx cap hy hyc h hsw hs

/-- f(args): f a def or a class of the text -/
theorem Ev.callR {func : Expr} {args : List Expr} {pos : Pos} {Q : V → Store → Prop} {env : Env}
    (h : Ev C A env func ρ σ (fun fx σ1 => ∃ f, fx = .ref f ∧ keepIn C.K (.ref f) = true ∧ Ags C A env pos args ρ σ1 (fun xs σ2 => CallWP C A (.ref f) xs σ2 Q X) X) X)
    (hev : eval (.Call func args [] pos) env = (do callWith pos (← eval func env) [] (backTo pos (starEach args env)) (backToKw pos (keywordEach [] env))) := by kernel_rfl)
    (he : (backTo pos (starEach args env)).any (·.1) = false := by kernel_rfl) : Ev C A env (.Call func args [] pos) ρ σ Q X := by
  intro s S F
  rw [hev]
  refine wpAny_bind (wpAny_mono (h s S F) ?_ fun _ _ z => z)
  rintro v s1 ⟨x, σ1, ⟨f, rfl, kp, q⟩, r1, S1, e1⟩
  cases r1
  exact wpAny_mono (callWith_mine (first := []) (fx := []) (Kp.ref kp) S1 (F.evo e1) .nil q he) (fun _ _ z => z.after e1) fun _ _ z => z
/-- f(args): f a built-in, or a built-in class -/
theorem Ev.callB {func : Expr} {args : List Expr} {pos : Pos} {Q : V → Store → Prop} {env : Env}
    (h : Ev C A env func ρ σ (fun fx σ1 => ∃ f, (fx = .blt f ∧ Ags C A env pos args ρ σ1 (fun xs σ2 => CallWP C A (.builtin f) xs σ2 Q X) X) ∨ (fx = .typ f ∧ Ags C A env pos args ρ σ1 (fun xs σ2 => CallWP C A (.type f) xs σ2 Q X) X)) X)
    (hev : eval (.Call func args [] pos) env = (do callWith pos (← eval func env) [] (backTo pos (starEach args env)) (backToKw pos (keywordEach [] env))) := by kernel_rfl)
    (he : (backTo pos (starEach args env)).any (·.1) = false := by kernel_rfl) : Ev C A env (.Call func args [] pos) ρ σ Q X := by
  intro s S F
  rw [hev]
  refine wpAny_bind (wpAny_mono (h s S F) ?_ fun _ _ z => z)
  rintro v s1 ⟨x, σ1, ⟨f, (⟨rfl, q⟩ | ⟨rfl, q⟩)⟩, r1, S1, e1⟩
  · cases r1
    exact wpAny_mono (callWith_mine (first := []) (fx := []) Kp.blt S1 (F.evo e1) .nil q he) (fun _ _ z => z.after e1) fun _ _ z => z
  · cases r1
    exact wpAny_mono (callWith_mine (first := []) (fx := []) Kp.typ S1 (F.evo e1) .nil q he) (fun _ _ z => z.after e1) fun _ _ z => z
end
end Mine
namespace Mine
open PySem PySem.W
theorem CmpL.pure {C : Cx} {A : Around} {env : Env} {x : Str} {ifs : List Expr} {elt : Expr} {ok : Store → Prop} {ρ : Rho} {R : List V → Store → Prop} {σ : Store} (p : V → Bool) (f : V → V) (hok : ok σ) :
    ∀ (ys out : List V), (∀ y ∈ ys, ∀ Q : Bool → Store → Prop, Q (p y) σ → Ifs C A env ifs (ρ.put x y) σ Q (fun _ _ => False)) → (∀ y ∈ ys, p y = true → ∀ Q : V → Store → Prop, Q (f y) σ → Ev C A env elt (ρ.put x y) σ Q (fun _ _ => False)) →
    out.length + ys.length ≤ sizeLine → R (out ++ (ys.filter p).map f) σ → CmpL C A env x ifs elt ok ρ R ys out σ
  | [], out, _, _, _, h => by simpa [CmpL] using h
  | y :: ys, out, h1, h2, hz, h => by
    unfold CmpL
    refine h1 y (.head _) _ ?_
    simp only [List.length_cons] at hz
    cases q : p y with
    | true =>
      simp only [if_true]
      refine h2 y (.head _) q _ ⟨by (first | lia | omega), hok, ?_⟩
      refine CmpL.pure p f hok ys (out ++ [f y]) (fun z hz => h1 z (.tail _ hz)) (fun z hz => h2 z (.tail _ hz)) (by simp; (first | lia | omega)) ?_
      simpa [List.filter_cons, q] using h
    | false =>
      simp only [Bool.false_eq_true, if_false]
      refine ⟨hok, CmpL.pure p f hok ys out (fun z hz => h1 z (.tail _ hz)) (fun z hz => h2 z (.tail _ hz)) (by (first | lia | omega)) ?_⟩
      simpa [List.filter_cons, q] using h
theorem Ifs.nil {C : Cx} {A : Around} {env : Env} {ρ : Rho} {σ : Store} {X : XP} {Q : Bool → Store → Prop} (h : Q true σ) : Ifs C A env [] ρ σ Q X := h
theorem Ifs.one {C : Cx} {A : Around} {env : Env} {ρ : Rho} {σ : Store} {X : XP} {c : Expr} {Q : Bool → Store → Prop} (h : Tst C A env c ρ σ Q X) : Ifs C A env [c] ρ σ Q X := h
end Mine

/- arities -/
namespace Mine
open PySem PySem.W PySem.SeqAt PyProof.Rows
section
variable {C : Cx} {A : Around} {σ : Store} {X : XP}
theorem lenS {α : Type} {n : Nat} {l : List α} (h : l.length = n + 1) : ∃ a t, l = a :: t ∧ t.length = n := by
  cases l with
  | nil => cases h
  | cons a t => exact ⟨a, t, rfl, Nat.succ.inj h⟩
theorem CallWP.def1 (x1 : Str) {f : Addr} {name qual : Str} {params : Arguments} {body : List Stmt} {scope : Scope} {dV kV doc pm cdv ct oc : Value} {an od : Option Addr} {osl : Array (Option Value)} {v1 : V} {Q : V → Store → Prop}
    (ho : C.K.lookup f = some ⟨oc, od, .func (fnOf name qual params body scope dV kV doc pm an cdv ct), osl⟩) (hcd : codeIn C.K cdv qual = true) (hroom : A.depth < recursionLimit)
    (hbind : ∀ u1 : Value, bindArgs (fnOf name qual params body scope dV kV doc pm an cdv ct) ⟨[u1], []⟩ = pure [(x1, u1)]) (nd : ([x1] : List Str).Nodup)
    (hkind : (([x1] : List Str).all fun y => scope.names.lookup y == some .local || scope.names.lookup y == some .cell) = true) (hsc : scopeOk scope = true) (hco : scope.isCoroutine = false) (hgen : scope.isGenerator = false) (hk : scope.kind = .function)
    (h : ∀ L A', A'.handled = A.handled → A'.depth = A.depth + 1 → A'.units = A.units + 3 → Exs C A' (mkE scope L (cellsFrom (L + 1) scope.names []) (qual ++ ".<locals>.") (some f) cdv (some L)) body [(x1, v1)] σ (fun g _ σ' => Q g.val σ') (fun _ _ => False)) :
    CallWP C A (.ref f) [v1] σ Q X :=
  CallWP.def [x1] (args := [v1]) ho hcd hroom (fun vals hl => by obtain ⟨u1, t1, rfl, h1⟩ := lenS hl; obtain rfl := List.eq_nil_of_length_eq_zero h1; exact hbind u1) nd hkind hsc hco hgen hk h
theorem CallWP.def2 (x1 x2 : Str) {f : Addr} {name qual : Str} {params : Arguments} {body : List Stmt} {scope : Scope} {dV kV doc pm cdv ct oc : Value} {an od : Option Addr} {osl : Array (Option Value)} {v1 v2 : V} {Q : V → Store → Prop}
    (ho : C.K.lookup f = some ⟨oc, od, .func (fnOf name qual params body scope dV kV doc pm an cdv ct), osl⟩) (hcd : codeIn C.K cdv qual = true) (hroom : A.depth < recursionLimit)
    (hbind : ∀ u1 u2 : Value, bindArgs (fnOf name qual params body scope dV kV doc pm an cdv ct) ⟨[u1, u2], []⟩ = pure [(x1, u1), (x2, u2)]) (nd : ([x1, x2] : List Str).Nodup)
    (hkind : (([x1, x2] : List Str).all fun y => scope.names.lookup y == some .local || scope.names.lookup y == some .cell) = true) (hsc : scopeOk scope = true) (hco : scope.isCoroutine = false) (hgen : scope.isGenerator = false) (hk : scope.kind = .function)
    (h : ∀ L A', A'.handled = A.handled → A'.depth = A.depth + 1 → A'.units = A.units + 3 → Exs C A' (mkE scope L (cellsFrom (L + 1) scope.names []) (qual ++ ".<locals>.") (some f) cdv (some L)) body [(x1, v1), (x2, v2)] σ (fun g _ σ' => Q g.val σ') (fun _ _ => False)) :
    CallWP C A (.ref f) [v1, v2] σ Q X :=
  CallWP.def [x1, x2] (args := [v1, v2]) ho hcd hroom (fun vals hl => by obtain ⟨u1, t1, rfl, h1⟩ := lenS hl; obtain ⟨u2, t2, rfl, h2⟩ := lenS h1; obtain rfl := List.eq_nil_of_length_eq_zero h2; exact hbind u1 u2) nd hkind hsc hco hgen hk h
theorem CallWP.def3 (x1 x2 x3 : Str) {f : Addr} {name qual : Str} {params : Arguments} {body : List Stmt} {scope : Scope} {dV kV doc pm cdv ct oc : Value} {an od : Option Addr} {osl : Array (Option Value)} {v1 v2 v3 : V} {Q : V → Store → Prop}
    (ho : C.K.lookup f = some ⟨oc, od, .func (fnOf name qual params body scope dV kV doc pm an cdv ct), osl⟩) (hcd : codeIn C.K cdv qual = true) (hroom : A.depth < recursionLimit)
    (hbind : ∀ u1 u2 u3 : Value, bindArgs (fnOf name qual params body scope dV kV doc pm an cdv ct) ⟨[u1, u2, u3], []⟩ = pure [(x1, u1), (x2, u2), (x3, u3)]) (nd : ([x1, x2, x3] : List Str).Nodup)
    (hkind : (([x1, x2, x3] : List Str).all fun y => scope.names.lookup y == some .local || scope.names.lookup y == some .cell) = true) (hsc : scopeOk scope = true) (hco : scope.isCoroutine = false) (hgen : scope.isGenerator = false) (hk : scope.kind = .function)
    (h : ∀ L A', A'.handled = A.handled → A'.depth = A.depth + 1 → A'.units = A.units + 3 → Exs C A' (mkE scope L (cellsFrom (L + 1) scope.names []) (qual ++ ".<locals>.") (some f) cdv (some L)) body [(x1, v1), (x2, v2), (x3, v3)] σ (fun g _ σ' => Q g.val σ') (fun _ _ => False)) :
    CallWP C A (.ref f) [v1, v2, v3] σ Q X :=
  CallWP.def [x1, x2, x3] (args := [v1, v2, v3]) ho hcd hroom (fun vals hl => by obtain ⟨u1, t1, rfl, h1⟩ := lenS hl; obtain ⟨u2, t2, rfl, h2⟩ := lenS h1; obtain ⟨u3, t3, rfl, h3⟩ := lenS h2; obtain rfl := List.eq_nil_of_length_eq_zero h3; exact hbind u1 u2 u3) nd hkind hsc hco hgen hk h
theorem CallWP.def4 (x1 x2 x3 x4 : Str) {f : Addr} {name qual : Str} {params : Arguments} {body : List Stmt} {scope : Scope} {dV kV doc pm cdv ct oc : Value} {an od : Option Addr} {osl : Array (Option Value)} {v1 v2 v3 v4 : V} {Q : V → Store → Prop}
    (ho : C.K.lookup f = some ⟨oc, od, .func (fnOf name qual params body scope dV kV doc pm an cdv ct), osl⟩) (hcd : codeIn C.K cdv qual = true) (hroom : A.depth < recursionLimit)
    (hbind : ∀ u1 u2 u3 u4 : Value, bindArgs (fnOf name qual params body scope dV kV doc pm an cdv ct) ⟨[u1, u2, u3, u4], []⟩ = pure [(x1, u1), (x2, u2), (x3, u3), (x4, u4)]) (nd : ([x1, x2, x3, x4] : List Str).Nodup)
    (hkind : (([x1, x2, x3, x4] : List Str).all fun y => scope.names.lookup y == some .local || scope.names.lookup y == some .cell) = true) (hsc : scopeOk scope = true) (hco : scope.isCoroutine = false) (hgen : scope.isGenerator = false) (hk : scope.kind = .function)
    (h : ∀ L A', A'.handled = A.handled → A'.depth = A.depth + 1 → A'.units = A.units + 3 → Exs C A' (mkE scope L (cellsFrom (L + 1) scope.names []) (qual ++ ".<locals>.") (some f) cdv (some L)) body [(x1, v1), (x2, v2), (x3, v3), (x4, v4)] σ (fun g _ σ' => Q g.val σ') (fun _ _ => False)) :
    CallWP C A (.ref f) [v1, v2, v3, v4] σ Q X :=
  CallWP.def [x1, x2, x3, x4] (args := [v1, v2, v3, v4]) ho hcd hroom (fun vals hl => by obtain ⟨u1, t1, rfl, h1⟩ := lenS hl; obtain ⟨u2, t2, rfl, h2⟩ := lenS h1; obtain ⟨u3, t3, rfl, h3⟩ := lenS h2; obtain ⟨u4, t4, rfl, h4⟩ := lenS h3; obtain rfl := List.eq_nil_of_length_eq_zero h4; exact hbind u1 u2 u3 u4) nd hkind hsc hco hgen hk h
end
end Mine

set_option autoImplicit false
set_option linter.unusedVariables false
namespace Mine
open PySem PySem.W PySem.SeqAt PyProof.Rows

theorem Rho.gp_hit {x : Str} {v : V} {r : Rho} : Rho.get (Rho.put r x v) x = some v := by rw [Rho.get_put]; simp
theorem Rho.gp_miss {x y : Str} {v : V} {u : Option V} {r : Rho} (h : y ≠ x) (k : Rho.get r y = u) : Rho.get (Rho.put r x v) y = u := by rw [Rho.get_put, if_neg h, k]

theorem stored_nd {K : Type} [DecidableEq K] (acc : List (K × Value)) (k : K) (v : Value) (n : (acc.map (·.1)).Nodup) : ((stored acc k v).map (·.1)).Nodup := by
  unfold stored
  split
  · have : (acc.map fun kv => if kv.1 = k then (kv.1, v) else kv).map (·.1) = acc.map (·.1) := by
      rw [List.map_map]; apply List.map_congr_left; intro a _; simp only [Function.comp]; split <;> rfl
    rw [this]; exact n
  · rename_i q
    rw [List.map_append, List.nodup_append]
    refine ⟨n, by simp, ?_⟩
    intro a ha b hb e
    simp only [List.map_cons, List.map_nil, List.mem_singleton] at hb
    obtain ⟨p, hp, rfl⟩ := List.mem_map.mp ha
    exact q (List.any_eq_true.mpr ⟨p, hp, by simpa using e.trans hb⟩)
section
variable {C : Cx} {A : Around} {env : Env} {ρ : Rho} {σ : Store} {X : XP} {s : Shared}

/- {"a": .., "b": ..} -/
inductive KVR (h : Heap) : List (Value × Value) → List (Str × V) → Prop
  | nil : KVR h [] []
  | cons {k : Str} {t : Tok} {v : Value} {x : V} {r : List (Value × Value)} {r' : List (Str × V)} : VR h v x → KVR h r r' → KVR h ((.str k t, v) :: r) ((k, x) :: r')
def Prs (C : Cx) (A : Around) (env : Env) (pos : Pos) (ks : List (Option Expr)) (vs : List Expr) (ρ : Rho) (σ : Store) (Q : List (Str × V) → Store → Prop) (X : XP) : Prop :=
  ∀ s, St C σ s → Fm C σ s.heap env ρ → wpAny C.M A (evalPairs (pairTrees ks vs env pos)) (fun r s' => ∃ xs σ', Q xs σ' ∧ KVR s'.heap r xs ∧ St C σ' s' ∧ Evo σ s.heap σ' s'.heap) X s
theorem Prs.nil {pos : Pos} {Q : List (Str × V) → Store → Prop} (h : Q [] σ) : Prs C A env pos [] [] ρ σ Q X :=
  fun s S F => pairTrees_nil_walk ⟨[], σ, h, .nil, S, .refl ..⟩
theorem KVR.merged (C : Cx) {h : Heap} : ∀ {r : List (Value × Value)} {xs : List (Str × V)}, KVR h r xs → ∃ kvs : List (Str × Value), Carries (strKind C.prog C.w) r kvs ∧ kvs.length = xs.length ∧
    ∀ acc es, PR h acc es → (acc.map (·.1)).Nodup → PR h (PySem.merged acc kvs) (xs.foldl (fun e p => sput e p.1 p.2) es)
  | _, _, .nil => ⟨[], trivial, rfl, fun acc es p _ => p⟩
  | _, _, .cons (k := k) (t := t) (v := v) a b => by
    obtain ⟨kvs, c, l, m⟩ := KVR.merged C b
    refine ⟨(k, v) :: kvs, ⟨by show (k == k) = true; simp, rfl, c⟩, by simp [l], fun acc es p n => ?_⟩
    have := m (stored acc k v) _ (PR.stored a p n) (stored_nd _ _ _ n)
    simpa [PySem.merged] using this
theorem Prs.cons {pos cp : Pos} {k : Str} {lit : Const} {kn : Nat} {v : Expr} {ks : List (Option Expr)} {vs : List Expr} {Q : List (Str × V) → Store → Prop}
    (h : Ev C A env (.Constant lit kn cp) ρ σ (fun x σ0 => x = .str k ∧ Ev C A env v ρ σ0 (fun y σ1 => Prs C A env pos ks vs ρ σ1 (fun xs σ2 => Q ((k, y) :: xs) σ2) X) X) X) :
    Prs C A env pos (some (.Constant lit kn cp) :: ks) (v :: vs) ρ σ Q X := by
  intro s S F
  refine pairTrees_cons_walk (wpAny_mono (h s S F) ?_ fun _ _ z => z)
  rintro w0 s0 ⟨x0, σ0, ⟨rfl, h0⟩, r0, S0, e0⟩
  refine wpAny_mono (h0 s0 S0 (F.evo e0)) ?_ fun _ _ z => z
  rintro w1 s1 ⟨x1, σ1, h1, r1, S1, e1⟩
  refine wpAny_mono (h1 s1 S1 ((F.evo e0).evo e1)) ?_ fun _ _ z => z
  rintro r s2 ⟨xs, σ2, h2, r2, S2, e2⟩
  cases r0
  exact ⟨_, σ2, h2, .cons (r1.mono e2.tup) r2, S2, (e0.trans e1).trans e2⟩
theorem Prs.str {pos cp : Pos} {k : Str} {kn : Nat} {v : Expr} {ks : List (Option Expr)} {vs : List Expr} {Q : List (Str × V) → Store → Prop}
    (h : Ev C A env v ρ σ (fun y σ1 => Prs C A env pos ks vs ρ σ1 (fun xs σ2 => Q ((k, y) :: xs) σ2) X) X) : Prs C A env pos (some (.Constant (.str k) kn cp) :: ks) (v :: vs) ρ σ Q X :=
  Prs.cons (Ev.cstr ⟨rfl, h⟩)
theorem Ev.dictS {pos : Pos} {ks : List (Option Expr)} {vs : List Expr} {Q : V → Store → Prop} (hall : ks.all (·.isSome) = true) (hl : ks.length = vs.length) (h0 : ks ≠ []) (hlen : ks.length ≤ 15)
    (h : ∀ a, σ a = none → Prs C A env pos ks vs ρ (σ.upd a (.sd [])) (fun es σ1 => σ1 a = some (.sd []) ∧ Q (.ref a) (σ1.upd a (.sd (es.foldl (fun e p => sput e p.1 p.2) [])))) X) :
    Ev C A env (.Dict ks vs pos) ρ σ Q X := by
  intro s S F
  obtain ⟨S2, e2⟩ := S.new (t := s.toks) (x := { cls := .type "dict", data := .dict #[] }) (o := .sd []) ⟨[], Heap.DictOf.new _, .nil⟩
  refine wpAny_Dict_walk (knd := strKind C.prog C.w) hall hl h0 hlen (wpAny_mono (h _ S.fresh _ S2 (F.evo e2)) ?_ fun _ _ z => z)
  rintro r s3 ⟨xs, σ3, ⟨h3, q⟩, r3, S3, e3⟩
  obtain ⟨kvs, c, l, m⟩ := KVR.merged C r3
  obtain ⟨kv0, D, p0⟩ := S3.rep _ _ h3
  cases p0
  refine ⟨kvs, c, D, fun h' D' sb => ?_⟩
  have tk : TupKeep s3.heap h' := tupKeep_sameBut sb (S3.rep _ _ h3).notTup
  obtain ⟨S4, e4⟩ := S3.set (t := s3.toks + r.length) (o' := .sd (xs.foldl (fun e p => sput e p.1 p.2) [])) h3 sb ⟨_, D', (m [] [] .nil List.nodup_nil).mono tk⟩
  exact ⟨.ref _, _, q, .ref _, S4, (e2.trans e3).trans e4⟩

/- pop() -/
theorem CallWP.pop {l : Addr} {xs : List V} {y : V} {Q : V → Store → Prop} (hl : σ l = some (.list (xs ++ [y]))) (hz : xs.length < sizeLine)
    (h : Q y (σ.upd l (.list xs))) : CallWP C A (.builtin "list.pop") [.ref l] σ Q X := by
  intro s vs S r
  cases r with
  | cons r1 r2 =>
  cases r2; cases r1
  obtain ⟨items, ⟨n, e⟩, rl⟩ := S.rep _ _ hl
  have el := rl.length
  simp only [Array.length_toList, List.length_append, List.length_singleton] at el
  have hj : (xs ++ [y])[xs.length]? = some y := by simp
  obtain ⟨u, hu, ru⟩ := rl.get hj
  have hu' : items[items.size - 1]? = some u := by rw [el]; simpa using hu
  refine call_meets F.slot_list_pop ⟨_, e, rfl⟩ F.entry_list_pop (F.args_list_pop_1 _) (MeetsSeq.list_pop_last l items n u hu' (by (first | lia | omega))) ⟨e, ?_⟩
  obtain ⟨S', e'⟩ := upd_list (f := fun x => x.eraseIdxIfInBounds (items.size - 1)) S hl e (ys := xs) (by
    have hj' : items.size - 1 < items.size := by (first | lia | omega)
    have : (items.eraseIdxIfInBounds (items.size - 1)).toList = items.toList.eraseIdx (items.size - 1) := by
      simp [Array.eraseIdxIfInBounds, hj', Array.toList_eraseIdx]
    rw [this, el]
    have := rl.erase xs.length
    have e2 : (xs ++ [y]).eraseIdx xs.length = xs := by rw [List.eraseIdx_append_of_length_le (Nat.le_refl _)]; simp
    rw [e2] at this; simpa using this)
  exact ⟨y, _, h, ru.mono e'.tup, S', e'⟩

/- all(), any() over a list of truths -/
theorem kept_it {h' : Heap} {o : Obj} (hk : ∀ b x, b ∉ [s.heap.objs.size] → (s.heap.push o).get? b = some x → h'.get? b = some x) : ∀ b x, s.heap.get? b = some x → h'.get? b = some x :=
  fun b x e => hk b x (fun hm => by rw [List.mem_singleton.mp hm] at e; exact Nat.lt_irrefl _ (Heap.lt_size e)) (Heap.get?_push_of_some _ e)
theorem bools_get {h : Heap} {vs : List Value} {bs : List Bool} (r : VRs h vs (bs.map V.bool)) {i : Nat} {v : Value} (e : vs[i]? = some v) : ∃ b, bs[i]? = some b ∧ v = .bool b := by
  have hl := r.length
  have : i < vs.length := (List.getElem?_eq_some_iff.mp e).1
  have hb : i < bs.length := by simpa [hl] using this
  obtain ⟨u, hu, ru⟩ := r.get (show (bs.map V.bool)[i]? = some (V.bool bs[i]) by simp [hb])
  rw [hu] at e; cases e
  cases ru
  exact ⟨bs[i], by simp [hb], rfl⟩
theorem CallWP.all {l : Addr} {bs : List Bool} {Q : V → Store → Prop} (hh : A.handled = none) (hl : LstAt C σ l (bs.map V.bool)) (h : Q (.bool (bs.all id)) σ) : CallWP C A (.builtin "all") [.ref l] σ Q X := by
  intro s vs S r
  cases r with
  | cons r1 r2 =>
  cases r2; cases r1
  obtain ⟨items, il, rl⟩ := hl.raw S
  have el := rl.length
  simp only [Array.length_toList, List.length_map] at el
  have hlt : l < s.heap.objs.size := by obtain ⟨_, e, _⟩ := il; exact Heap.lt_size e
  refine call_all_walk (wpAny_pyIter_list il ?_)
  refine ⟨s.heap.objs.size, [s.heap.objs.size, l], [s.heap.objs.size], items.size, _, _, fun i => (bs[i]?).getD true, rfl, Walks.list (A := A.in1) hh _ l (Nat.ne_of_lt hlt) items,
    ⟨⟨_, Heap.get?_push_size _ rfl, rfl, rfl⟩, il.push _⟩, fun i v s' Q' E' hP hQ => ?_, fun h' tk hk => ?_⟩
  · obtain ⟨b, e, rfl⟩ := bools_get rl (by simpa using hP)
    simp only [e, Option.getD_some] at hQ
    exact wpAny_truthy_bool hQ
  · have e : ((List.range items.size).all fun i => (bs[i]?).getD true) = bs.all id := by
      rw [el]; exact PyProof.Rows.LSm.range_all bs
    rw [e]
    exact ⟨_, σ, h, .bool _, S.ext (kept_it hk), .ext (kept_it hk)⟩
theorem CallWP.any {l : Addr} {bs : List Bool} {Q : V → Store → Prop} (hh : A.handled = none) (hl : LstAt C σ l (bs.map V.bool)) (h : Q (.bool (bs.any id)) σ) : CallWP C A (.builtin "any") [.ref l] σ Q X := by
  intro s vs S r
  cases r with
  | cons r1 r2 =>
  cases r2; cases r1
  obtain ⟨items, il, rl⟩ := hl.raw S
  have el := rl.length
  simp only [Array.length_toList, List.length_map] at el
  have hlt : l < s.heap.objs.size := by obtain ⟨_, e, _⟩ := il; exact Heap.lt_size e
  refine call_any_walk (wpAny_pyIter_list il ?_)
  refine ⟨s.heap.objs.size, [s.heap.objs.size, l], [s.heap.objs.size], items.size, _, _, fun i => (bs[i]?).getD false, rfl, Walks.list (A := A.in1) hh _ l (Nat.ne_of_lt hlt) items,
    ⟨⟨_, Heap.get?_push_size _ rfl, rfl, rfl⟩, il.push _⟩, fun i v s' Q' E' hP hQ => ?_, fun h' tk hk => ?_⟩
  · obtain ⟨b, e, rfl⟩ := bools_get rl (by simpa using hP)
    simp only [e, Option.getD_some] at hQ
    exact wpAny_truthy_bool hQ
  · have e : ((List.range items.size).any fun i => (bs[i]?).getD false) = bs.any id := by
      rw [el]; exact PyProof.Rows.LSm.range_any bs
    rw [e]
    exact ⟨_, σ, h, .bool _, S.ext (kept_it hk), .ext (kept_it hk)⟩

theorem small_le {n : Nat} (h : Nat.ble n sizeLine = true) : n ≤ sizeLine := Nat.le_of_ble_eq_true h
theorem Szs.mk {xs : List V} {P : Prop} (h : xs.length ≤ sizeLine) (k : P) : xs.length ≤ sizeLine ∧ P := ⟨h, k⟩
theorem Br.t {b : Bool} {p q : Prop} (hb : b = true) (h : p) : if b = true then p else q := by rw [if_pos hb]; exact h
theorem Br.f {b : Bool} {p q : Prop} (hb : b = false) (h : q) : if b = true then p else q := by rw [if_neg (by simp [hb])]; exact h
theorem ItemWP.tup0 {x : V} {xs : List V} {Q : V → Store → Prop} (h : Q x σ) : ItemWP C A (.tup (x :: xs)) (.int 0) σ Q X :=
  ItemWP.tup (j := 0) (by decide) (by decide) (by rw [seqIndex_of (by (first | lia | omega)) (by simp)]; rfl) rfl h
theorem ItemWP.tup1 {x y : V} {xs : List V} {Q : V → Store → Prop} (h : Q x σ) : ItemWP C A (.tup (y :: x :: xs)) (.int 1) σ Q X :=
  ItemWP.tup (j := 1) (by decide) (by decide) (by rw [seqIndex_of (by (first | lia | omega)) (by simp; (first | lia | omega))]; rfl) rfl h
theorem ItemWP.tup2 {x y z : V} {xs : List V} {Q : V → Store → Prop} (h : Q x σ) : ItemWP C A (.tup (y :: z :: x :: xs)) (.int 2) σ Q X :=
  ItemWP.tup (j := 2) (by decide) (by decide) (by rw [seqIndex_of (by (first | lia | omega)) (by simp; (first | lia | omega))]; rfl) rfl h
theorem ItemWP.tup3 {x y z u : V} {xs : List V} {Q : V → Store → Prop} (h : Q x σ) : ItemWP C A (.tup (y :: z :: u :: x :: xs)) (.int 3) σ Q X :=
  ItemWP.tup (j := 3) (by decide) (by decide) (by rw [seqIndex_of (by (first | lia | omega)) (by simp; (first | lia | omega))]; rfl) rfl h
theorem ItemWP.tup4 {x y z u w : V} {xs : List V} {Q : V → Store → Prop} (h : Q x σ) : ItemWP C A (.tup (y :: z :: u :: w :: x :: xs)) (.int 4) σ Q X :=
  ItemWP.tup (j := 4) (by decide) (by decide) (by rw [seqIndex_of (by (first | lia | omega)) (by simp; (first | lia | omega))]; rfl) rfl h
theorem ItemWP.last {l : Addr} {xs : List V} {y : V} {Q : V → Store → Prop} (hl : LstAt C σ l (xs ++ [y])) (h : Q y σ) : ItemWP C A (.ref l) (.int (-1)) σ Q X :=
  ItemWP.listNeg hl (by decide) (by simp; (first | lia | omega)) (by decide) (by
    have : ((-1 : Int) + ((xs ++ [y]).length : Int)).toNat = xs.length := by simp; (first | lia | omega)
    rw [this]; simp) h
end
end Mine

set_option autoImplicit false
set_option linter.unusedVariables false
namespace Mine
open PySem PySem.W PySem.SeqAt PyProof.Rows

/- stores -/
def Grow (σ σ' : Store) : Prop := ∀ b o, σ b = some o → σ' b = some o
theorem Grow.rfl' {σ : Store} : Grow σ σ := fun _ _ e => e
theorem Grow.trans {σ1 σ2 σ3 : Store} (a : Grow σ1 σ2) (b : Grow σ2 σ3) : Grow σ1 σ3 := fun x o e => b x o (a x o e)
theorem Store.hit {σ : Store} {a : Addr} {o : O} : (σ.upd a o) a = some o := by simp [Store.upd]
theorem Store.miss {σ : Store} {a b : Addr} {o : O} {r : Option O} (h : b ≠ a) (k : σ b = r) : (σ.upd a o) b = r := by simp [Store.upd, h, k]
theorem Store.at_fresh {σ : Store} {a b : Addr} {o o' : O} (h : σ a = none) (k : σ b = some o') : (σ.upd a o) b = some o' := Store.miss (fun e => by rw [e, h] at k; cases k) k
theorem Grow.fresh {σ σ' : Store} {a : Addr} {o : O} (g : Grow σ σ') (h : σ' a = none) : Grow σ (σ'.upd a o) := fun b o' e => Store.at_fresh h (g b o' e)
theorem Grow.upd {σ σ' : Store} {a : Addr} {o : O} (g : Grow σ σ') (h : σ a = none) : Grow σ (σ'.upd a o) := fun b o' e => Store.miss (fun q => by rw [q, h] at e; cases e) (g b o' e)
theorem Grow.none {σ σ' : Store} {a : Addr} (g : Grow σ σ') (h : σ' a = none) : σ a = none := by
  cases q : σ a with
  | none => rfl
  | some o => rw [g a o q] at h; cases h

section
variable {C : Cx} {A : Around} {env : Env} {ρ : Rho} {σ : Store} {X : XP} {s : Shared}
theorem Asg.mono {t : Expr} {x : V} {Q Q' : Rho → Store → Prop} (h : Asg C A env t x ρ σ Q X) (k : ∀ ρ σ, Q ρ σ → Q' ρ σ) : Asg C A env t x ρ σ Q' X := by
  intro s v S F r
  refine wpAny_mono (h s v S F r) ?_ fun _ _ z => z
  rintro _ s1 ⟨ρ1, σ1, q, rest⟩
  exact ⟨ρ1, σ1, k _ _ q, rest⟩

theorem TyGo.mk {x : V} {T : String} {P : Prop} (h : TyV C σ x T) (k : P) : TyV C σ x T ∧ P := ⟨h, k⟩
theorem Eqs.mk {x y : V} {P : Prop} (h : x = y) (k : P) : x = y ∧ P := ⟨h, k⟩
theorem LstAt.st {l : Addr} {xs : List V} (h : σ l = some (.list xs)) : LstAt C σ l xs := .inl h
/-- what a loop's body owes -/
def LpQ (ok : Store → Prop) (J : Rho → Store → Prop) (Q : FV → Rho → Store → Prop) (g : FV) (ρ : Rho) (σ : Store) : Prop :=
  match g with
  | .next | .cont => ok σ ∧ J ρ σ
  | .brk => Q .next ρ σ
  | .ret v => Q (.ret v) ρ σ
theorem LpQ.n {ok : Store → Prop} {J : Rho → Store → Prop} {Q : FV → Rho → Store → Prop} (h : ok σ ∧ J ρ σ) : LpQ ok J Q .next ρ σ := h
theorem ForL.inv {α : Type} {target : Expr} {body : List Stmt} {ok : Store → Prop} {Q : FV → Rho → Store → Prop} (enc : α → V) (I : List α → Rho → Store → Prop)
    (step : ∀ x xs ρ σ, I (x :: xs) ρ σ → Asg C A env target (enc x) ρ σ (fun ρ1 σ1 => Exs C A env body ρ1 σ1 (LpQ ok (I xs) Q) (fun _ _ => False)) (fun _ _ => False))
    (done : ∀ ρ σ, I [] ρ σ → Q .next ρ σ) : ∀ xs ρ σ, I xs ρ σ → ForL C A env target body ok Q (xs.map enc) ρ σ
  | [], ρ, σ, h => done ρ σ h
  | x :: xs, ρ, σ, h => by
    refine (step x xs ρ σ h).mono fun ρ1 σ1 h1 => h1.mono fun g ρ2 σ2 h2 => ?_
    cases g with
    | next => exact ⟨h2.1, ForL.inv enc I step done xs ρ2 σ2 h2.2⟩
    | cont => exact ⟨h2.1, ForL.inv enc I step done xs ρ2 σ2 h2.2⟩
    | brk => exact h2
    | ret v => exact h2

theorem Ev.mono' {e : Expr} {Q Q' : V → Store → Prop} (h : Ev C A env e ρ σ Q X) (k : ∀ x σ, Q x σ → Q' x σ) : Ev C A env e ρ σ Q' X := by
  intro s S F
  refine wpAny_mono (h s S F) ?_ fun _ _ z => z
  rintro _ s1 ⟨x, σ1, q, r1, r2, r3⟩
  exact ⟨x, σ1, k _ _ q, r1, r2, r3⟩
theorem CmpL.inv {α : Type} {x : Str} {elt : Expr} {ok : Store → Prop} {R : List V → Store → Prop} (enc : α → V) (I : List α → List V → Store → Prop)
    (step : ∀ y ys out σ, I (y :: ys) out σ → Ev C A env elt (ρ.put x (enc y)) σ (fun z σ2 => out.length ≤ sizeLine ∧ ok σ2 ∧ I ys (out ++ [z]) σ2) (fun _ _ => False))
    (done : ∀ out σ, I [] out σ → R out σ) : ∀ ys out σ, I ys out σ → CmpL C A env x [] elt ok ρ R (ys.map enc) out σ
  | [], out, σ, h => done out σ h
  | y :: ys, out, σ, h => by
    unfold CmpL
    exact Ifs.nil ((step y ys out σ h).mono' fun z σ2 h2 => ⟨h2.1, h2.2.1, CmpL.inv enc I step done ys _ σ2 h2.2.2⟩)
end
end Mine

set_option autoImplicit false
set_option linter.unusedVariables false
namespace Mine
open PySem PySem.W PySem.SeqAt PyProof.Rows

/- texts: their length and their code points -/
theorem strOk_iff {x : Str} : PySem.PyData.strOk x = true ↔ ∀ c ∈ x.cps.toList, c < 0x110000 := by
  unfold PySem.PyData.strOk
  rw [Array.all_eq_true_iff_forall_mem]
  simp
theorem strOk_ofString (s : String) : PySem.PyData.strOk (Str.ofString s) = true := by
  rw [strOk_iff]
  intro c hc
  rw [Str.ofString_eq_toList] at hc
  simp only [List.mem_map, List.toList_toArray] at hc
  obtain ⟨d, _, rfl⟩ := hc
  have := d.valid
  simp only [UInt32.isValidChar, Nat.isValidChar] at this
  simp only [Char.toNat]
  (first | lia | omega)
end Mine

namespace Mine
open PySem PySem.W PySem.SeqAt PyProof.Rows
section
variable {C : Cx} {A : Around} {σ : Store} {X : XP}
theorem sget_hit {x : Str} {v : V} {r : List (Str × V)} : sget ((x, v) :: r) x = some v := by simp [sget]
theorem sget_miss {x y : Str} {u : V} {v : Option V} {r : List (Str × V)} (h : x ≠ y) (k : sget r x = v) : sget ((y, u) :: r) x = v := by
  subst k; have h' : ¬ y = x := fun e => h e.symm
  simp [sget, h']
theorem CallWP.range1 {n : Int} {Q : V → Store → Prop} (h : Q (.rng 0 n) σ) : CallWP C A (.type "range") [.int n] σ Q X := by
  intro s vs S r
  cases r with
  | cons r1 r2 =>
  cases r2; cases r1
  exact call_range_1 ⟨.rng 0 n, σ, h, .rng (IsRange.new _ _ _ _ _ _ _), S.push, .push⟩
theorem intMul_l {a b : Int} (h1 : -(2 ^ 64) < a) (h2 : a < 2 ^ 64) : IntMulOk a b := IntMulOk.of_left (intBits_le_64 h1 h2)
theorem intMul_r {a b : Int} (h1 : -(2 ^ 64) < b) (h2 : b < 2 ^ 64) : IntMulOk a b := IntMulOk.of_right (intBits_le_64 h1 h2)
end
end Mine

set_option autoImplicit false
set_option linter.unusedVariables false
namespace Mine
open PySem PySem.W PySem.SeqAt PyProof.Rows
section
variable {C : Cx} {A : Around} {σ : Store} {X : XP}
/- plain data -/
theorem DRs.map {α : Type} {f : α → V} {g : α → PyData} : ∀ {xs : List α}, (∀ x ∈ xs, DR C σ (f x) (g x)) → DRs C σ (xs.map f) (xs.map g)
  | [], _ => .nil
  | x :: xs, h => .cons (h x (.head _)) (DRs.map fun y hy => h y (.tail _ hy))
theorem canLayAll_map {α : Type} {g : α → PyData} : ∀ {xs : List α}, (∀ x ∈ xs, (g x).canLay0 = true) → PyData.canLayAll0 (xs.map g) = true
  | [], _ => by simp [PyData.canLayAll0]
  | x :: xs, h => by simp [PyData.canLayAll0, h x (.head _), canLayAll_map fun y hy => h y (.tail _ hy)]
theorem depthAll_map {α : Type} {g : α → PyData} {k : Nat} : ∀ {xs : List α}, (∀ x ∈ xs, (g x).depth ≤ k) → PyData.depthAll (xs.map g) ≤ k
  | [], _ => by simp [PyData.depthAll]
  | x :: xs, h => by
    have h1 := h x (.head _)
    have h2 := depthAll_map (xs := xs) fun y hy => h y (.tail _ hy)
    simp only [List.map_cons, PyData.depthAll]; (first | lia | omega)
theorem CmpWP.eqSame {x y : V} {d : PyData} {Q : V → Store → Prop} (hx : DR C σ x d) (hy : DR C σ y d) (h1 : d.canLay0 = true) (hu : A.units + d.depth < cLine) (h : Q (.bool true) σ) : CmpWP C A .Eq x y σ Q X :=
  CmpWP.eq hx hy h1 h1 (by (first | lia | omega)) (by rw [eqv_refl d h1]; exact h)
theorem isi_t {x : V} {t : Ty} {U : String} {Q : V → Store → Prop} (ht : HasTy C σ x t) (hU : (U = "int" ∨ U = "bool" ∨ U = "str" ∨ U = "list" ∨ U = "tuple")) {b : Bool} (hb : isiB t U = b) (h : Q (.bool b) σ) : CallWP C A (.builtin "isinstance") [x, .typ U] σ Q X :=
  CallWP.isi ht hU (by rw [hb]; exact h)
end
end Mine

set_option autoImplicit false
set_option linter.unusedVariables false
namespace Mine
open PySem PySem.W PySem.SeqAt PyProof.Rows
section
variable {C : Cx} {A : Around} {env : Env} {ρ : Rho} {σ : Store} {X : XP} {s : Shared}
/- a, b, c = x, y, z -/
def AsgN (C : Cx) (A : Around) (env : Env) (ns : List Str) (xs : List V) (ρ : Rho) (σ : Store) (Q : Rho → Store → Prop) (X : XP) : Prop :=
  ∀ s vs, St C σ s → Fm C σ s.heap env ρ → VRs s.heap vs xs → wpAny C.M A (assignInOrder (ns.map fun n => bindName env n) vs) (fun _ s' => ∃ ρ' σ', Q ρ' σ' ∧ St C σ' s' ∧ Fm C σ' s'.heap env ρ' ∧ EvoF env σ s.heap σ' s'.heap) X s
theorem Store.none_ne {σ : Store} {a b : Addr} {o : O} (h : (σ.upd b o) a = none) : a ≠ b ∧ σ a = none := by
  by_cases q : a = b
  · subst q; simp [Store.upd] at h
  · exact ⟨q, by simpa [Store.upd, q] using h⟩
end
end Mine

namespace Mine
open PySem PySem.W
section
variable {C : Cx} {A : Around} {env : Env} {ρ : Rho} {σ : Store} {X : XP}
end
end Mine

set_option autoImplicit false
set_option linter.unusedVariables false
namespace Mine
open PySem PySem.W
/- which kind of goal stands: one quick look each -/
section
variable {C : Cx} {A : Around} {env : Env} {ρ : Rho} {σ : Store} {X : XP}
theorem is.ev {e : Expr} {Q : V → Store → Prop} (h : Ev C A env e ρ σ Q X) : Ev C A env e ρ σ Q X := h
theorem is.tst {e : Expr} {Q : Bool → Store → Prop} (h : Tst C A env e ρ σ Q X) : Tst C A env e ρ σ Q X := h
theorem is.ex {e : Stmt} {Q : FV → Rho → Store → Prop} (h : Ex C A env e ρ σ Q X) : Ex C A env e ρ σ Q X := h
theorem is.exs {e : List Stmt} {Q : FV → Rho → Store → Prop} (h : Exs C A env e ρ σ Q X) : Exs C A env e ρ σ Q X := h
theorem is.thn {e : List Stmt} {Q : FV → Rho → Store → Prop} {g : FV} (h : Then C A env e Q X g ρ σ) : Then C A env e Q X g ρ σ := h
theorem is.asg {e : Expr} {x : V} {Q : Rho → Store → Prop} (h : Asg C A env e x ρ σ Q X) : Asg C A env e x ρ σ Q X := h
theorem is.cmp {o : CmpOp} {x y : V} {Q : V → Store → Prop} (h : CmpWP C A o x y σ Q X) : CmpWP C A o x y σ Q X := h
theorem is.bin {o : Operator} {x y : V} {Q : V → Store → Prop} (h : BinWP C A o x y σ Q X) : BinWP C A o x y σ Q X := h
theorem is.call {f : Value} {xs : List V} {Q : V → Store → Prop} (h : CallWP C A f xs σ Q X) : CallWP C A f xs σ Q X := h
theorem is.item {x y : V} {Q : V → Store → Prop} (h : ItemWP C A x y σ Q X) : ItemWP C A x y σ Q X := h
theorem is.lp {ok : Store → Prop} {J : Rho → Store → Prop} {Q : FV → Rho → Store → Prop} {g : FV} (h : LpQ ok J Q g ρ σ) : LpQ ok J Q g ρ σ := h
theorem is.tru {x : V} {Q : Bool → Store → Prop} (h : TruWP C A x σ Q X) : TruWP C A x σ Q X := h
theorem is.ags {pos : Pos} {es : List Expr} {Q : List V → Store → Prop} (h : Ags C A env pos es ρ σ Q X) : Ags C A env pos es ρ σ Q X := h
end
end Mine

set_option autoImplicit false
set_option linter.unusedVariables false
namespace Mine
open PySem PySem.W PyProof.Rows

/- the sort's questions answered by a weak order: its answer is sorted and stable -/
structure SWO (lt : Nat → Nat → Bool) : Prop where
  irr : ∀ i, lt i i = false
  tr : ∀ i j k, lt i j = true → lt j k = true → lt i k = true
  nt : ∀ i j k, lt i j = false → lt j k = false → lt i k = false
def slt (lt : Nat → Nat → Bool) (i j : Nat) : Prop := lt i j = true ∨ (lt j i = false ∧ i < j)
section
variable {lt : Nat → Nat → Bool}
theorem SWO.asym (W : SWO lt) {i j : Nat} (h : lt i j = true) : lt j i = false := by
  cases q : lt j i with
  | false => rfl
  | true => have := W.tr i j i h q; rw [W.irr] at this; cases this
theorem SWO.l1 (W : SWO lt) {i j k : Nat} (h : lt i j = true) (n : lt k j = false) : lt i k = true := by
  cases q : lt i k with
  | true => rfl
  | false => rw [W.nt i k j q n] at h; cases h
theorem SWO.l2 (W : SWO lt) {i j k : Nat} (n : lt j i = false) (h : lt j k = true) : lt i k = true := by
  cases q : lt i k with
  | true => rfl
  | false => rw [W.nt j i k n q] at h; cases h
theorem slt.not (W : SWO lt) {i j : Nat} (h : slt lt i j) : lt j i = false := by
  rcases h with h | h
  · exact W.asym h
  · exact h.1
theorem slt.trans (W : SWO lt) {i j k : Nat} (a : slt lt i j) (b : slt lt j k) : slt lt i k := by
  rcases a with a | ⟨a, a'⟩ <;> rcases b with b | ⟨b, b'⟩
  · exact .inl (W.tr _ _ _ a b)
  · exact .inl (W.l1 a b)
  · exact .inl (W.l2 a b)
  · exact .inr ⟨W.nt _ _ _ b a, Nat.lt_trans a' b'⟩
def Srt (lt : Nat → Nat → Bool) (p : Nat → Nat) (n : Nat) : Prop := ∀ i j, i < j → j < n → slt lt (p i) (p j)
theorem Srt.ext (W : SWO lt) {p : Nat → Nat} {n : Nat} (h : Srt lt p n) (h1 : 1 ≤ n) (k : slt lt (p (n - 1)) (p n)) : Srt lt p (n + 1) := by
  intro i j hij hj
  by_cases q : j < n
  · exact h i j hij q
  · have : j = n := by (first | lia | omega)
    subst this
    by_cases q : i = j - 1
    · subst q; exact k
    · exact (h i (j - 1) (by (first | lia | omega)) (by (first | lia | omega))).trans W k
structure Idn (p : Nat → Nat) (n N : Nat) : Prop where
  rest : ∀ k, n ≤ k → k < N → p k = k
  low : ∀ k, k < n → p k < n
theorem Idn.succ {p : Nat → Nat} {n N : Nat} (I : Idn p n N) (h : n < N) : Idn p (n + 1) N :=
  ⟨fun k a b => I.rest k (by (first | lia | omega)) b, fun k a => by
    by_cases q : k < n
    · have := I.low k q; (first | lia | omega)
    · have : k = n := by (first | lia | omega)
      subst this; rw [I.rest k (Nat.le_refl _) h]; (first | lia | omega)⟩
theorem Idn.mono {p : Nat → Nat} {n N : Nat} (I : Idn p n N) : ∀ m, n ≤ m → m ≤ N → Idn p m N := by
  intro m h1 h2
  induction m with
  | zero => have : n = 0 := by (first | lia | omega)
            subst this; exact I
  | succ m ih =>
    by_cases q : n = m + 1
    · subst q; exact I
    · exact (ih (by (first | lia | omega)) (by (first | lia | omega))).succ (by (first | lia | omega))
abbrev fn (P : Array Nat) (k : Nat) : Nat := P.getD k 0
theorem fn_get (P : Array Nat) (k : Nat) : fn P k = (P[k]?).getD 0 := by simp [fn]
theorem fn_rev {P : Array Nat} {i j : Nat} (hj : j ≤ P.size) (k : Nat) : fn (kas_rev P i j) k = if i ≤ k ∧ k < j then fn P (i + j - 1 - k) else fn P k := by
  rw [fn_get]; unfold kas_rev; rw [getElem?_mirror_all hj]
  split <;> rw [fn_get]
theorem fn_bubble {P : Array Nat} {k d : Nat} (hk : k < P.size) (hd : d ≤ k) (i : Nat) : fn (bubble P k d) i = if i = k - d then fn P k else if k - d < i ∧ i ≤ k then fn P (i - 1) else fn P i := by
  rw [fn_get, fn_get, fn_get, fn_get, getElem?_bubble hk d hd]
  split
  · rfl
  · split <;> rfl
theorem rev_size (P : Array Nat) (i j : Nat) : (kas_rev P i j).size = P.size := mirror_size _ _ _ _
theorem rev_perm (P : Array Nat) (i j : Nat) : (kas_rev P i j).Perm P := mirror_perm _ _ _ _

variable {cmp : Nat → Nat → (Bool → Shared → Prop) → Shared → Prop} {s : Shared} {N : Nat}
/-- P: the array's state -/
structure PA (P : Array Nat) (N : Nat) : Prop where
  sz : P.size = N
  pm : P.toList.Perm (List.range N)
theorem PA.rev {P : Array Nat} (h : PA P N) (i j : Nat) : PA (kas_rev P i j) N := ⟨(rev_size _ _ _).trans h.sz, ((rev_perm P i j).toList).trans h.pm⟩
theorem PA.bub {P : Array Nat} (h : PA P N) (i j : Nat) : PA (bubble P i j) N := ⟨(bubble_size _ _ _).trans h.sz, ((bubble_perm P i j).toList).trans h.pm⟩
theorem PA.bnd {P : Array Nat} (h : PA P N) {k : Nat} (hk : k < N) : fn P k < N := by
  have hk' : k < P.size := by rw [h.sz]; exact hk
  have : fn P k ∈ P.toList := by
    have e : fn P k = P[k] := by simp [fn, Array.getD, hk']
    rw [e]; exact Array.getElem_mem_toList hk'
  have := h.pm.mem_iff.mp this
  simpa using this

theorem asc_ok (W : SWO lt) (hc : ∀ i j C, i < N → j < N → C (lt i j) s → cmp i j C s) {P : Array Nat} (hP : PA P N) {Q : Nat → Shared → Prop} : ∀ f n, n + f = N → 1 ≤ n → Srt lt (fn P) n → Idn (fn P) n N →
    (∀ m, n ≤ m → m ≤ N → Srt lt (fn P) m → (m < N → lt (fn P m) (fn P (m - 1)) = true) → Q m s) → (kas_asc P f n).kasWp cmp Q s
  | 0, n, hn, h1, hs, hi, h => h n (Nat.le_refl _) (by (first | lia | omega)) hs (fun q => by (first | lia | omega))
  | f + 1, n, hn, h1, hs, hi, h => by
    refine hc _ _ _ (hP.bnd (by (first | lia | omega))) (hP.bnd (by (first | lia | omega))) ?_
    cases q : lt (P.getD n 0) (P.getD (n - 1) 0) with
    | true => exact h n (Nat.le_refl _) (by (first | lia | omega)) hs fun _ => q
    | false =>
      refine asc_ok W hc hP f (n + 1) (by (first | lia | omega)) (by (first | lia | omega)) (hs.ext W h1 (.inr ⟨q, ?_⟩)) (hi.succ (by (first | lia | omega))) fun m a b c d => h m (by (first | lia | omega)) b c d
      rw [hi.rest n (Nat.le_refl _) (by (first | lia | omega))]
      exact hi.low _ (by (first | lia | omega))

/-- falling so far, the last run of equals apart -/
structure Dsc (lt : Nat → Nat → Bool) (p : Nat → Nat) (b n : Nat) : Prop where
  i1 : ∀ i j, i < j → j < b → slt lt (p j) (p i)
  i2 : ∀ i j, i < b → b ≤ j → j < n → lt (p j) (p i) = true
  i3 : ∀ i j, b ≤ i → i < j → j < n → p i < p j ∧ lt (p i) (p j) = false ∧ lt (p j) (p i) = false
theorem Dsc.turn (W : SWO lt) {p p1 : Nat → Nat} {b n : Nat} (h : Dsc lt p b n) (hb : b < n) (e : ∀ k, p1 k = if b ≤ k ∧ k < n then p (b + n - 1 - k) else p k) : ∀ i j, i < j → j < n → slt lt (p1 j) (p1 i) := by
  intro i j hij hj
  rw [e, e]
  by_cases q : b ≤ j
  · rw [if_pos ⟨q, hj⟩]
    by_cases q2 : b ≤ i
    · rw [if_pos ⟨q2, by (first | lia | omega)⟩]
      obtain ⟨a, b', c⟩ := h.i3 (b + n - 1 - j) (b + n - 1 - i) (by (first | lia | omega)) (by (first | lia | omega)) (by (first | lia | omega))
      exact .inr ⟨c, a⟩
    · rw [if_neg (by (first | lia | omega))]
      exact .inl (h.i2 i _ (by (first | lia | omega)) (by (first | lia | omega)) (by (first | lia | omega)))
  · rw [if_neg (by (first | lia | omega)), if_neg (by (first | lia | omega))]
    exact h.i1 i j hij (by (first | lia | omega))
theorem Dsc.next (W : SWO lt) {p p1 : Nat → Nat} {b n : Nat} (h : Dsc lt p b n) (hb : b < n) (e : ∀ k, p1 k = if b ≤ k ∧ k < n then p (b + n - 1 - k) else p k) (hl : lt (p n) (p (n - 1)) = true) : Dsc lt p1 n (n + 1) := by
  refine ⟨h.turn W hb e, fun i j hi hj hj' => ?_, fun i j a b' c => by (first | lia | omega)⟩
  have : j = n := by (first | lia | omega)
  subst this
  rw [e j, if_neg (by (first | lia | omega)), e i]
  by_cases q : b ≤ i
  · rw [if_pos ⟨q, hi⟩]
    have : lt (p (b + j - 1 - i)) (p (j - 1)) = false := by
      by_cases z : b + j - 1 - i = j - 1
      · rw [z, W.irr]
      · exact (h.i3 _ (j - 1) (by (first | lia | omega)) (by (first | lia | omega)) (by (first | lia | omega))).2.1
    exact W.l1 hl this
  · rw [if_neg (by (first | lia | omega))]
    exact W.tr _ _ _ hl (h.i2 i (j - 1) (by (first | lia | omega)) (by (first | lia | omega)) (by (first | lia | omega)))
theorem Dsc.more (W : SWO lt) {p : Nat → Nat} {b n N : Nat} (h : Dsc lt p b n) (hb : b < n) (hi : Idn p n N) (hn : n < N) (h1 : lt (p n) (p (n - 1)) = false) (h2 : lt (p (n - 1)) (p n) = false) : Dsc lt p b (n + 1) := by
  refine ⟨h.i1, fun i j a b' c => ?_, fun i j a b' c => ?_⟩
  · by_cases q : j < n
    · exact h.i2 i j a b' q
    · have : j = n := by (first | lia | omega)
      subst this
      exact W.l2 h2 (h.i2 i (j - 1) a (by (first | lia | omega)) (by (first | lia | omega)))
  · by_cases q : j < n
    · exact h.i3 i j a b' q
    · have : j = n := by (first | lia | omega)
      subst this
      refine ⟨by rw [hi.rest j (Nat.le_refl _) hn]; exact hi.low i b', ?_⟩
      by_cases z : i = j - 1
      · subst z; exact ⟨h2, h1⟩
      · obtain ⟨x, y, w⟩ := h.i3 i (j - 1) a (by (first | lia | omega)) (by (first | lia | omega))
        exact ⟨W.nt _ _ _ y h2, W.nt _ _ _ h1 w⟩
theorem Idn.rev {P : Array Nat} {n b N : Nat} (hi : Idn (fn P) n N) (hP : PA P N) (hn : n ≤ N) : Idn (fn (kas_rev P b n)) n N := by
  refine ⟨fun k a c => ?_, fun k a => ?_⟩
  · rw [fn_rev (by rw [hP.sz]; exact hn), if_neg (by (first | lia | omega))]; exact hi.rest k a c
  · rw [fn_rev (by rw [hP.sz]; exact hn)]
    split
    · exact hi.low _ (by (first | lia | omega))
    · exact hi.low _ a

theorem desc_ok (W : SWO lt) (hc : ∀ i j C, i < N → j < N → C (lt i j) s → cmp i j C s) {Q : Array Nat × Nat × Nat → Shared → Prop} : ∀ f P n q, n + f = N → q + 1 ≤ n → PA P N → Idn (fn P) n N → Dsc lt (fn P) (n - (q + 1)) n →
    (∀ P' m q', n ≤ m → m ≤ N → q' + 1 ≤ m → PA P' N → Idn (fn P') m N → Dsc lt (fn P') (m - (q' + 1)) m → Q (P', m, q') s) → (kas_desc f P n q).kasWp cmp Q s
  | 0, P, n, q, hn, hq, hP, hi, hd, h => h P n q (Nat.le_refl _) (by (first | lia | omega)) hq hP hi hd
  | f + 1, P, n, q, hn, hq, hP, hi, hd, h => by
    refine hc _ _ _ (hP.bnd (by (first | lia | omega))) (hP.bnd (by (first | lia | omega))) ?_
    cases c : lt (P.getD n 0) (P.getD (n - 1) 0) with
    | true =>
      simp only [if_true]
      split
      · rename_i q0
        have e := fn_rev (P := P) (i := n - (q + 1)) (j := n) (by rw [hP.sz]; (first | lia | omega))
        refine desc_ok W hc f _ (n + 1) 0 (by (first | lia | omega)) (by (first | lia | omega)) (hP.rev _ _) ((hi.rev hP (by (first | lia | omega))).succ (by (first | lia | omega))) ?_ fun P' m q' a b c d e g => h P' m q' (by (first | lia | omega)) b c d e g
        exact hd.next W (by (first | lia | omega)) e c
      · rename_i q0
        have q0 : q = 0 := by (first | lia | omega)
        subst q0
        refine desc_ok W hc f _ (n + 1) 0 (by (first | lia | omega)) (by (first | lia | omega)) hP (hi.succ (by (first | lia | omega))) ?_ fun P' m q' a b c d e g => h P' m q' (by (first | lia | omega)) b c d e g
        refine hd.next W (by (first | lia | omega)) (fun k => ?_) c
        split
        · congr 1; (first | lia | omega)
        · rfl
    | false =>
      simp only [Bool.false_eq_true, if_false]
      refine hc _ _ _ (hP.bnd (by (first | lia | omega))) (hP.bnd (by (first | lia | omega))) ?_
      cases c2 : lt (P.getD (n - 1) 0) (P.getD n 0) with
      | true =>
        simp only [if_true]
        exact h P n q (Nat.le_refl _) (by (first | lia | omega)) hq hP hi hd
      | false =>
        simp only [Bool.false_eq_true, if_false]
        refine desc_ok W hc f P (n + 1) (q + 1) (by (first | lia | omega)) (by (first | lia | omega)) hP (hi.succ (by (first | lia | omega))) ?_ fun P' m q' a b c d e g => h P' m q' (by (first | lia | omega)) b c d e g
        have : n + 1 - (q + 1 + 1) = n - (q + 1) := by (first | lia | omega)
        rw [this]
        exact hd.more W (by (first | lia | omega)) hi (by (first | lia | omega)) c c2

theorem tail3_ok (W : SWO lt) (hc : ∀ i j C, i < N → j < N → C (lt i j) s → cmp i j C s) {P : Array Nat} {n : Nat} {Q : Nat × Array Nat → Shared → Prop} (h1 : 1 ≤ n) (hn : n ≤ N) (hP : PA P N) (hi : Idn (fn P) n N) (hd : ∀ i j, i < j → j < n → slt lt (fn P j) (fn P i))
    (h : ∀ m P', 1 ≤ m → m ≤ N → PA P' N → Idn (fn P') m N → Srt lt (fn P') m → Q (m, P') s) : (kas_tail3 n N P).kasWp cmp Q s := by
  unfold kas_tail3
  rw [KasT.kasWp_bind]
  have e := fn_rev (P := P) (i := 0) (j := n) (by rw [hP.sz]; (first | lia | omega))
  have hs : Srt lt (fn (kas_rev P 0 n)) n := fun i j a b => by
    rw [e, e, if_pos (by (first | lia | omega)), if_pos (by (first | lia | omega))]
    exact hd _ _ (by (first | lia | omega)) (by (first | lia | omega))
  refine asc_ok W hc (hP.rev 0 n) (N - n) n (by (first | lia | omega)) h1 hs (hi.rev hP hn) fun m a b c d => ?_
  exact h m _ (by (first | lia | omega)) b (hP.rev 0 n) ((hi.rev hP hn).mono m a b) c

theorem descPart_ok (W : SWO lt) (hc : ∀ i j C, i < N → j < N → C (lt i j) s → cmp i j C s) {P : Array Nat} {n : Nat} {Q : Nat × Array Nat → Shared → Prop} (hn : n + 1 ≤ N) (h1 : 1 ≤ n) (hP : PA P N) (hi : Idn (fn P) n N) (hd : Dsc lt (fn P) n (n + 1))
    (h : ∀ m P', 1 ≤ m → m ≤ N → PA P' N → Idn (fn P') m N → Srt lt (fn P') m → Q (m, P') s) : (kas_descPart n N P).kasWp cmp Q s := by
  unfold kas_descPart
  rw [KasT.kasWp_bind]
  refine desc_ok W hc (N - (n + 1)) P (n + 1) 0 (by (first | lia | omega)) (by (first | lia | omega)) hP (hi.succ (by (first | lia | omega))) (by simpa using hd) fun P' m q' a b c d e g => ?_
  dsimp only
  split
  · have ee := fn_rev (P := P') (i := m - (q' + 1)) (j := m) (by rw [d.sz]; (first | lia | omega))
    exact tail3_ok W hc (by (first | lia | omega)) b (d.rev _ _) (e.rev d b) (g.turn W (by (first | lia | omega)) ee) h
  · have q0 : q' = 0 := by (first | lia | omega)
    subst q0
    refine tail3_ok W hc (by (first | lia | omega)) b d e (g.turn W (by (first | lia | omega)) fun k => ?_) h
    split
    · congr 1; (first | lia | omega)
    · rfl

theorem count_ok (W : SWO lt) (hc : ∀ i j C, i < N → j < N → C (lt i j) s → cmp i j C s) {P : Array Nat} {Q : Nat × Array Nat → Shared → Prop} (h1 : 1 ≤ N) (hP : PA P N) (hi : Idn (fn P) 1 N)
    (h : ∀ m P', 1 ≤ m → m ≤ N → PA P' N → Idn (fn P') m N → Srt lt (fn P') m → Q (m, P') s) : (kas_count N P).kasWp cmp Q s := by
  unfold kas_count
  rw [KasT.kasWp_bind]
  refine asc_ok W hc hP (N - 1) 1 (by (first | lia | omega)) (Nat.le_refl _) (fun i j a b => by (first | lia | omega)) hi fun n a b c d => ?_
  have hin := hi.mono n a b
  split
  · exact h n P a b hP hin c
  · rename_i e
    have hlt : n < N := by
      have : n ≠ N := fun q => e (by simp [q])
      (first | lia | omega)
    have dl := d hlt
    split
    · refine hc _ _ _ (hP.bnd (by (first | lia | omega))) (hP.bnd (by (first | lia | omega))) ?_
      cases c2 : lt (P.getD 0 0) (P.getD (n - 1) 0) with
      | true =>
        simp only [if_true]
        exact h n P a b hP hin c
      | false =>
        simp only [Bool.false_eq_true, if_false]
        have e := fn_rev (P := P) (i := 0) (j := n) (by rw [hP.sz]; (first | lia | omega))
        refine descPart_ok W hc hlt a (hP.rev 0 n) (hin.rev hP b) ⟨fun i j x y => ?_, fun i j x y z => ?_, fun i j x y z => by (first | lia | omega)⟩ h
        · rw [e, e, if_pos (by (first | lia | omega)), if_pos (by (first | lia | omega))]
          exact c _ _ (by (first | lia | omega)) (by (first | lia | omega))
        · have : j = n := by (first | lia | omega)
          subst this
          rw [e j, e i, if_neg (by (first | lia | omega)), if_pos (by (first | lia | omega))]
          have k0 : lt (fn P (0 + j - 1 - i)) (fn P 0) = false := by
            by_cases z : 0 + j - 1 - i = 0
            · rw [z, W.irr]
            · exact (c 0 (0 + j - 1 - i) (by (first | lia | omega)) (by (first | lia | omega))).not W
          exact W.l1 dl (W.nt _ _ _ k0 c2)
    · have : n = 1 := by (first | lia | omega)
      subst this
      refine descPart_ok W hc hlt a hP hin ⟨fun i j x y => by (first | lia | omega), fun i j x y z => ?_, fun i j x y z => by (first | lia | omega)⟩ h
      have e1 : j = 1 := by (first | lia | omega)
      have e2 : i = 0 := by (first | lia | omega)
      subst e1 e2
      exact dl

theorem place_ok (W : SWO lt) (hc : ∀ i j C, i < N → j < N → C (lt i j) s → cmp i j C s) {P : Array Nat} {k : Nat} {Q : Nat → Shared → Prop} (hP : PA P N) (hk : k < N) (hs : Srt lt (fn P) k) : ∀ f l r, l ≤ r → r ≤ k → r - l ≤ f →
    (∀ i, i < l → lt (fn P k) (fn P i) = false) → (∀ i, r ≤ i → i < k → lt (fn P k) (fn P i) = true) →
    (∀ l, l ≤ k → (∀ i, i < l → lt (fn P k) (fn P i) = false) → (∀ i, l ≤ i → i < k → lt (fn P k) (fn P i) = true) → Q l s) → (kas_place P k f l r).kasWp cmp Q s
  | 0, l, r, h1, h2, h3, a, b, h => h l (by (first | lia | omega)) a fun i x y => b i (by (first | lia | omega)) y
  | f + 1, l, r, h1, h2, h3, a, b, h => by
    unfold kas_place
    split
    · exact h l (by (first | lia | omega)) a fun i x y => b i (by (first | lia | omega)) y
    · refine hc _ _ _ (hP.bnd hk) (hP.bnd (by (first | lia | omega))) ?_
      cases c : lt (P.getD k 0) (P.getD ((l + r) / 2) 0) with
      | true =>
        simp only [if_true]
        refine place_ok W hc hP hk hs f l ((l + r) / 2) (by (first | lia | omega)) (by (first | lia | omega)) (by (first | lia | omega)) a (fun i x y => ?_) h
        by_cases z : i = (l + r) / 2
        · subst z; exact c
        · exact W.l1 c ((hs ((l + r) / 2) i (by (first | lia | omega)) y).not W)
      | false =>
        simp only [Bool.false_eq_true, if_false]
        refine place_ok W hc hP hk hs f ((l + r) / 2 + 1) r (by (first | lia | omega)) h2 (by (first | lia | omega)) (fun i x => ?_) b h
        by_cases z : i = (l + r) / 2
        · subst z; exact c
        · exact W.nt _ _ _ c ((hs i ((l + r) / 2) (by (first | lia | omega)) (by (first | lia | omega))).not W)
theorem bub_srt (W : SWO lt) {P : Array Nat} {k l : Nat} (hP : PA P N) (hk : k < N) (hs : Srt lt (fn P) k) (hi : Idn (fn P) k N) (hl : l ≤ k) (a : ∀ i, i < l → lt (fn P k) (fn P i) = false) (b : ∀ i, l ≤ i → i < k → lt (fn P k) (fn P i) = true) :
    Srt lt (fn (bubble P k (k - l))) (k + 1) ∧ Idn (fn (bubble P k (k - l))) (k + 1) N := by
  have e : ∀ i, fn (bubble P k (k - l)) i = if i = l then fn P k else if l < i ∧ i ≤ k then fn P (i - 1) else fn P i := fun i => by
    have e := fn_bubble (P := P) (k := k) (d := k - l) (by rw [hP.sz]; exact hk) (by (first | lia | omega)) i
    have : k - (k - l) = l := by (first | lia | omega)
    rwa [this] at e
  refine ⟨fun i j hij hj => ?_, fun i x y => ?_, fun i x => ?_⟩
  · rw [e i, e j]
    by_cases q1 : j = l
    · rw [if_pos q1, if_neg (by (first | lia | omega)), if_neg (by (first | lia | omega))]
      refine .inr ⟨a i (by (first | lia | omega)), ?_⟩
      rw [hi.rest k (Nat.le_refl _) hk]; exact hi.low i (by (first | lia | omega))
    · rw [if_neg q1]
      by_cases q2 : i = l
      · rw [if_pos q2, if_pos (by (first | lia | omega))]
        exact .inl (b (j - 1) (by (first | lia | omega)) (by (first | lia | omega)))
      · rw [if_neg q2]
        by_cases q3 : l < i ∧ i ≤ k
        · rw [if_pos q3, if_pos (by (first | lia | omega))]; exact hs _ _ (by (first | lia | omega)) (by (first | lia | omega))
        · rw [if_neg q3]
          by_cases q4 : l < j ∧ j ≤ k
          · rw [if_pos q4]; exact hs _ _ (by (first | lia | omega)) (by (first | lia | omega))
          · rw [if_neg q4]; exact hs _ _ hij (by (first | lia | omega))
  · rw [e i, if_neg (by (first | lia | omega)), if_neg (by (first | lia | omega))]; exact hi.rest i (by (first | lia | omega)) y
  · rw [e i]
    split
    · rw [hi.rest k (Nat.le_refl _) hk]; (first | lia | omega)
    · split
      · have := hi.low (i - 1) (by (first | lia | omega)); (first | lia | omega)
      · have := hi.low i (by (first | lia | omega)); (first | lia | omega)
theorem bin_ok (W : SWO lt) (hc : ∀ i j C, i < N → j < N → C (lt i j) s → cmp i j C s) {Q : Array Nat → Shared → Prop} : ∀ f P k, k + f = N → PA P N → Srt lt (fn P) k → Idn (fn P) k N →
    (∀ P', PA P' N → Srt lt (fn P') N → Q P' s) → (kas_bin f P k).kasWp cmp Q s
  | 0, P, k, hk, hP, hs, hi, h => h P hP (by have : k = N := by (first | lia | omega)
                                             subst this; exact hs)
  | f + 1, P, k, hk, hP, hs, hi, h => by
    unfold kas_bin
    rw [KasT.kasWp_bind]
    refine place_ok W hc hP (by (first | lia | omega)) hs k 0 k (Nat.zero_le _) (Nat.le_refl _) (by (first | lia | omega)) (fun i x => by (first | lia | omega)) (fun i x y => by (first | lia | omega)) fun l hl a b => ?_
    obtain ⟨s1, i1⟩ := bub_srt W hP (by (first | lia | omega)) hs hi hl a b
    exact bin_ok W hc f _ (k + 1) (by (first | lia | omega)) (hP.bub _ _) s1 i1 h
theorem sort_ok (W : SWO lt) (hc : ∀ i j C, i < N → j < N → C (lt i j) s → cmp i j C s) {Q : Array Nat → Shared → Prop} (h1 : 1 ≤ N)
    (h : ∀ P', P'.toList.Perm (List.range N) → P'.toList.Pairwise (slt lt) → Q P' s) : (kas_sort N).kasWp cmp Q s := by
  have fin : ∀ P', PA P' N → Srt lt (fn P') N → Q P' s := fun P' hP hs => by
    refine h P' hP.pm (List.pairwise_iff_getElem.mpr fun i j hi hj hij => ?_)
    have hz := hP.sz
    simp only [Array.length_toList] at hi hj
    have := hs i j hij (by (first | lia | omega))
    have e : ∀ k (hk : k < P'.size), fn P' k = P'[k] := fun k hk => by simp [fn, Array.getD, hk]
    rw [e i hi, e j hj] at this
    simpa using this
  unfold kas_sort
  rw [KasT.kasWp_bind]
  have hP0 : PA (List.toArray (List.range N)) N := ⟨by simp, by simp⟩
  have e0 : ∀ k, k < N → fn (List.toArray (List.range N)) k = k := fun k hk => by simp [fn, Array.getD, hk]
  refine count_ok W hc h1 hP0 ⟨fun k a b => e0 k b, fun k a => by rw [e0 k (by (first | lia | omega))]; exact a⟩ fun m P' a b c d e => ?_
  dsimp only
  split
  · have hm : max m 1 = m := by (first | lia | omega)
    rw [hm]
    exact bin_ok W hc (N - m) P' m (by (first | lia | omega)) c e d fin
  · have : m = N := by (first | lia | omega)
    subst this
    exact fin P' c e
end
end Mine

set_option autoImplicit false
set_option linter.unusedVariables false
set_option maxRecDepth 100000
namespace Mine
open PySem PySem.W PySem.SeqAt PyProof.Rows

/- pairs of numbers in their order -/
def pv (p : Int × Int) : V := .tup [.int p.1, .int p.2]
def lexlt (p q : Int × Int) : Bool := decide (p.1 < q.1) || (p.1 == q.1 && decide (p.2 < q.2))
theorem lexlt_iff {p q : Int × Int} : lexlt p q = true ↔ p.1 < q.1 ∨ (p.1 = q.1 ∧ p.2 < q.2) := by simp [lexlt]
theorem lexlt_false {p q : Int × Int} : lexlt p q = false ↔ q.1 < p.1 ∨ (q.1 = p.1 ∧ q.2 ≤ p.2) := by
  rw [← Bool.not_eq_true, lexlt_iff]; (first | lia | omega)
theorem lexSWO (f : Nat → Int × Int) : SWO (fun i j => lexlt (f i) (f j)) := by
  refine ⟨fun i => ?_, fun i j k => ?_, fun i j k => ?_⟩
  · rw [lexlt_false]; (first | lia | omega)
  · simp only [lexlt_iff]; (first | lia | omega)
  · simp only [lexlt_false]; (first | lia | omega)
theorem intSWO (f : Nat → Int) : SWO (fun i j => decide (f i < f j)) := by
  refine ⟨fun i => ?_, fun i j k => ?_, fun i j k => ?_⟩ <;> simp <;> (first | lia | omega)

section
variable {prog : Program} {w : World} {A : Around} {E : Value → Shared → Prop} {s : Shared}
theorem VR.pv_at {h : Heap} {v : Value} {p : Int × Int} (r : VR h v (pv p)) : ∃ a t u n, v = .ref a ∧ h.get? a = some (tupObj #[.int p.1 t, .int p.2 u] n) := by
  unfold pv at r
  cases r with
  | @tup a items n _ e rs =>
    obtain ⟨l⟩ := items
    cases rs with
    | cons r1 r2 =>
    cases r2 with
    | cons r2 r3 =>
    cases r3; cases r1; cases r2
    exact ⟨_, _, _, _, rfl, e⟩
theorem pair_lt {a b : Addr} {x y x' y' : Int} {t u t' u' : Tok} {n k : Nat} {Q : Value → Shared → Prop} (ha : s.heap.get? a = some (tupObj #[.int x t, .int y u] n)) (hb : s.heap.get? b = some (tupObj #[.int x' t', .int y' u'] k)) (hu : A.units < cLine)
    (h : Q (.bool (lexlt (x, y) (x', y'))) s) : wpAny (model prog w) A (richCompare .Lt (.ref a) (.ref b)) Q E s := by
  refine wpAny_richCompare_same_room (T := "tuple") (id := "tuple.__lt__") ⟨_, ha, rfl⟩ ⟨_, hb, rfl⟩ PySem.F.slot_tuple_lt ?_ hu
  refine wpAny_call_entry PySem.F.slot_tuple_lt ⟨_, ha, rfl⟩ PySem.F.entry_tuple_lt ?_ (PySem.F.args_tuple_lt_2 _ _)
  show wpAny _ _ (isInstance (.ref b) (.type "tuple") >>= _) _ _ s
  refine wpAny_bind (wpAny_isInstance ⟨_, hb, rfl⟩ isSubtype_tuple_tuple ?_)
  simp only [Bool.not_true, Bool.false_eq_true, if_false]
  refine wpAny_bind (wpAny_tupleItemsOf ha rfl ?_)
  refine wpAny_bind (wpAny_tupleItemsOf hb rfl ?_)
  refine wpAny_bind ?_
  simp only [List.zip_cons_cons, List.zip_nil_right, List.forIn_cons, List.forIn_nil]
  refine wpAny_bind (wpAny_bind (wpAny_eqBool_int ?_))
  by_cases q : x = x'
  · subst q
    have e1 : (x == x) = true := beq_self_eq_true _
    simp only [e1, Bool.not_true, Bool.false_eq_true, if_false]
    refine wpAny_pure ?_
    refine wpAny_bind (wpAny_bind (wpAny_eqBool_int ?_))
    by_cases q2 : y = y'
    · subst q2
      have e2 : (y == y) = true := beq_self_eq_true _
      simp only [e2, Bool.not_true, Bool.false_eq_true, if_false]
      refine wpAny_pure (wpAny_pure (wpAny_pure ⟨_, rfl, fun z => (nomatch z), ?_⟩))
      have : (lexlt (x, y) (x, y)) = false := by simp [lexlt]
      rw [this] at h; exact h
    · have e2 : (y == y') = false := beq_eq_false_iff_ne.mpr q2
      simp only [e2, Bool.not_false, if_true]
      refine wpAny_bind (wpAny_rule (wpAny_bind (PySem.P.lt_int (wpAny_bind (wpAny_pure (wpAny_pure (wpAny_pure (wpAny_pure ⟨_, rfl, fun z => (nomatch z), ?_⟩))))))))
      have : (lexlt (x, y) (x, y')) = decide (y < y') := by rw [Bool.eq_iff_iff]; simp [lexlt] <;> (first | lia | omega)
      rw [this] at h; exact h
  · have e1 : (x == x') = false := beq_eq_false_iff_ne.mpr q
    simp only [e1, Bool.not_false, if_true]
    refine wpAny_bind (wpAny_rule (wpAny_bind (PySem.P.lt_int (wpAny_bind (wpAny_pure (wpAny_pure (wpAny_pure (wpAny_pure ⟨_, rfl, fun z => (nomatch z), ?_⟩))))))))
    have : (lexlt (x, y) (x', y')) = decide (x < x') := by rw [Bool.eq_iff_iff]; simp [lexlt] <;> (first | lia | omega)
    rw [this] at h; exact h
end
def PairAt (h : Heap) (v : Value) (p : Int × Int) : Prop := ∃ a t u n, v = .ref a ∧ h.get? a = some (tupObj #[.int p.1 t, .int p.2 u] n)
section
variable {prog : Program} {w : World} {A : Around} {E : Value → Shared → Prop} {s : Shared}
theorem min_loop {base : Heap} {I S l : Addr} {items : Array Value} {ps : List (Int × Int)} {R : Result → Shared → Prop} (hh : A.handled = none) (hu : A.units + 1 < cLine) (hI : base.objs.size ≤ I) (hS : base.objs.size ≤ S) (hIS : I ≠ S)
    (hl : base.IsList l items) (hz : items.size = ps.length) (hr : ∀ (i : Nat) (v : Value) (p : Int × Int), items[i]? = some v → ps[i]? = some p → PairAt base v p) :
    ∀ (k j : Nat) (s : Shared) (vb : Value) (c : Nat) (p : Int × Int), ps.length - (j + 1) = k → j + 1 ≤ ps.length → s.heap.IsListIter I l (j + 1) → (∀ b o, base.get? b = some o → s.heap.get? b = some o) →
    s.heap.get? S = some { cls := .type "list", dict := none, data := .seq #[vb, vb] c, slots := #[] } → PairAt base vb p → (∃ i : Nat, i < ps.length ∧ items[i]? = some vb ∧ ps[i]? = some p) → (∀ q ∈ ps.take (j + 1), lexlt q p = false) →
    (∀ v p h' tk, (∃ i : Nat, i < ps.length ∧ items[i]? = some v ∧ ps[i]? = some p) → (∀ q ∈ ps, lexlt q p = false) → (∀ b o, base.get? b = some o → h'.get? b = some o) → R (.ok (.ret v)) { s with heap := h', toks := tk }) →
    codeAny (model prog w) A (.builtin "min.loop" ⟨[.ref I, .none, .ref S], []⟩) R s := by
  have hname : (toString "min" ++ toString ".loop" : String) = "min.loop" := by decide
  have hlI : l ≠ I := by obtain ⟨o, e, _⟩ := hl; exact Nat.ne_of_lt (Nat.lt_of_lt_of_le (Heap.lt_size e) hI)
  have W := Walks.list (prog := prog) (w := w) (A := A.in1) hh I l hlI items
  have up : ∀ {h h' : Heap}, (∀ b o, base.get? b = some o → h.get? b = some o) → (∀ b o, b ∉ [I] → h.get? b = some o → h'.get? b = some o) → ∀ b o, base.get? b = some o → h'.get? b = some o := fun a b' c o e =>
    b' c o (fun q => by rw [List.mem_singleton.mp q] at e; exact absurd (Heap.lt_size e) (Nat.not_lt.mpr hI)) (a c o e)
  have upS : ∀ {h : Heap} {f : Obj → Obj}, (∀ b o, base.get? b = some o → h.get? b = some o) → ∀ b o, base.get? b = some o → (h.update S f).get? b = some o := fun a c o e =>
    (Heap.get?_update_other _ _ (fun q : S = c => by rw [← q] at e; exact absurd (Heap.lt_size e) (Nat.not_lt.mpr hS))).trans (a c o e)
  have hSI : S ∉ [I] := fun q => hIS (List.mem_singleton.mp q).symm
  intro k
  induction k with
  | zero =>
    intro j s vb c p hk hj hit hb hSo hp hin hmin hR
    have hjn : j + 1 = items.size := by (first | lia | omega)
    refine codeAny_builtin F.entry_min_loop ?_
    rw [Around.under_plainId F.plain_min_loop _]
    show wpAny _ A.in1 (seqItems? (.ref S) >>= _) _ _ s
    refine wpAny_bind (wpAny_seqItems hSo rfl ?_)
    show wpAny _ A.in1 (tryCatch (pyNext (.ref I)) _ >>= _) _ _ s
    refine wpAny_bind (wpAny_tryCatch (W.done s _ _ ⟨hjn ▸ hit, hl.at fun o e => hb _ _ e⟩ fun h' tk hk' => ?_))
    have hS' := hk' S _ hSI hSo
    show wpAny _ A.in1 (updateSeq S (fun _ => #[]) >>= _) _ _ _
    refine wpAny_bind ?_
    refine wpAny_updateSeq hS' rfl (wpAny_bind (wpAny_letGo (wpAny_pure ?_)))
    refine hR vb p _ tk hin (fun q hq => hmin q ?_) (upS (up hb hk'))
    rw [List.take_of_length_le (by (first | lia | omega))]; exact hq
  | succ k ih =>
    intro j s vb c p hk hj hit hb hSo hp hin hmin hR
    have hlt : j + 1 < items.size := by (first | lia | omega)
    refine codeAny_builtin F.entry_min_loop ?_
    rw [Around.under_plainId F.plain_min_loop _]
    show wpAny _ A.in1 (seqItems? (.ref S) >>= _) _ _ s
    refine wpAny_bind (wpAny_seqItems hSo rfl ?_)
    show wpAny _ A.in1 (tryCatch (pyNext (.ref I)) _ >>= _) _ _ s
    refine wpAny_bind (wpAny_tryCatch (W.item (j + 1) s _ _ hlt ⟨hit, hl.at fun o e => hb _ _ e⟩ fun v h' tk hP hst' hk' => ?_))
    have hS' := hk' S _ hSI hSo
    have hb' := up hb hk'
    have hlt' : j + 1 < ps.length := by (first | lia | omega)
    obtain ⟨q, hq⟩ : ∃ q, ps[j + 1]? = some q := ⟨_, List.getElem?_eq_getElem hlt'⟩
    obtain ⟨a1, t1, u1, n1, rfl, e1⟩ := hr _ _ _ hP hq
    obtain ⟨a2, t2, u2, n2, rfl, e2⟩ := hp
    have take_succ : ∀ r ∈ ps.take (j + 1 + 1), r ∈ ps.take (j + 1) ∨ r = q := fun r hr' => by
      rw [List.take_add_one, hq] at hr'
      simpa using hr'
    show wpAny _ A.in1 (tryCatch (holding [_, _] (richCompare .Lt (.ref a1) (.ref a2) >>= _)) _ >>= _) _ _ _
    refine wpAny_bind (wpAny_tryCatch (wpAny_holding (wpAny_bind (pair_lt (hb' _ _ e1) (hb' _ _ e2) hu ?_))))
    refine wpAny_bind (wpAny_holding (wpAny_truthy_bool ?_))
    refine wpAny_bind (wpAny_letGo (wpAny_pure ?_))
    cases hc : lexlt (q.1, q.2) (p.1, p.2) with
    | true =>
      simp only [if_true]
      refine wpAny_bind ?_
      refine wpAny_updateSeq hS' rfl (wpAny_bind (wpAny_letGo ?_))
      rw [hname]
      refine wpAny_pure ⟨plainId_quiet F.plain_min_loop _, ih (j + 1) _ (.ref a1) _ q (by (first | lia | omega)) hlt' ((hst'.1).at fun o e => (Heap.get?_update_other _ _ (Ne.symm hIS)).trans e) (upS hb') (Heap.get?_update_self _ hS' rfl) ⟨a1, t1, u1, n1, rfl, e1⟩ ⟨j + 1, hlt', hP, hq⟩ (fun r hr' => ?_) fun v' p' h'' tk'' x1 x2 x3 => hR v' p' h'' tk'' x1 x2 x3⟩
      rcases take_succ r hr' with z | z
      · have := hmin r z
        rw [lexlt_false] at this ⊢
        rw [lexlt_iff] at hc
        (first | lia | omega)
      · subst z; rw [lexlt_false]; (first | lia | omega)
    | false =>
      simp only [Bool.false_eq_true, if_false]
      refine wpAny_bind (wpAny_letGo ?_)
      rw [hname]
      refine wpAny_pure ⟨plainId_quiet F.plain_min_loop _, ih (j + 1) _ (.ref a2) c p (by (first | lia | omega)) hlt' hst'.1 hb' hS' ⟨a2, t2, u2, n2, rfl, e2⟩ hin (fun r hr' => ?_) fun v' p' h'' tk'' x1 x2 x3 => hR v' p' h'' tk'' x1 x2 x3⟩
      rcases take_succ r hr' with z | z
      · exact hmin r z
      · subst z; exact hc
theorem call_min_pairs {l : Addr} {items : Array Value} {ps : List (Int × Int)} {Q : Value → Shared → Prop} (hh : A.handled = none) (hu : A.units + 1 < cLine) (hl : s.heap.IsList l items) (hz : items.size = ps.length) (hne : 0 < ps.length)
    (hr : ∀ (i : Nat) (v : Value) (p : Int × Int), items[i]? = some v → ps[i]? = some p → PairAt s.heap v p)
    (h : ∀ v p h' tk, (∃ i : Nat, i < ps.length ∧ items[i]? = some v ∧ ps[i]? = some p) → (∀ q ∈ ps, lexlt q p = false) → (∀ b o, s.heap.get? b = some o → h'.get? b = some o) → Q v { s with heap := h', toks := tk }) :
    wpAny (model prog w) A (call (.builtin "min") [.ref l]) Q E s := by
  have hname : (toString "min" ++ toString ".loop" : String) = "min.loop" := by decide
  have hlt : l < s.heap.objs.size := by obtain ⟨o, e, _⟩ := hl; exact Heap.lt_size e
  refine call_function_tree F.kind_min F.plain_min F.entry_min (F.args_min1 _) ?_
  show wpAny _ A.in1 (Builtin.Builtins.bindParams "min" ["key", "default"] 0 ⟨[], []⟩ >>= _) _ _ s
  refine wpAny_bind (wpAny_of_eq (show Builtin.Builtins.bindParams "min" ["key", "default"] 0 ⟨[], []⟩ = pure [none, none] from rfl) ?_)
  refine wpAny_bind (wpAny_pure ?_)
  refine wpAny_bind (wpAny_pyIter_list hl ?_)
  refine wpAny_bind (wpAny_newObj_type ?_)
  rw [hname]
  refine wpAny_pure ⟨plainId_quiet F.plain_min_loop _, ?_⟩
  generalize hH : (s.heap.push _).push _ = H
  have hIt : H.IsListIter s.heap.objs.size l 0 := by rw [← hH]; exact ⟨_, Heap.get?_push_of_some _ (Heap.get?_push_size _ rfl), rfl, rfl⟩
  have hSz : ∀ o : Obj, (s.heap.push o).objs.size = s.heap.objs.size + 1 := fun o => Heap.size_push ..
  rw [hSz]
  have hSo : H.get? (s.heap.objs.size + 1) = some { cls := .type "list", dict := none, data := .seq #[] 0, slots := #[] } := by rw [← hH, ← hSz]; exact Heap.get?_push_size _ rfl
  have hb : ∀ b o, s.heap.get? b = some o → H.get? b = some o := fun b o e => by rw [← hH]; exact Heap.get?_push_of_some _ (Heap.get?_push_of_some _ e)
  have W := Walks.list (prog := prog) (w := w) (A := A.in1) hh s.heap.objs.size l (Nat.ne_of_lt hlt) items
  have hSI : s.heap.objs.size + 1 ∉ [s.heap.objs.size] := fun q => by have := List.mem_singleton.mp q; (first | lia | omega)
  refine codeAny_builtin F.entry_min_loop ?_
  rw [Around.under_plainId F.plain_min_loop _]
  show wpAny _ A.in1 (seqItems? (.ref (s.heap.objs.size + 1)) >>= _) _ _ _
  refine wpAny_bind (wpAny_seqItems hSo rfl ?_)
  show wpAny _ A.in1 (tryCatch (pyNext (.ref s.heap.objs.size)) _ >>= _) _ _ _
  refine wpAny_bind (wpAny_tryCatch (W.item 0 _ _ _ (by (first | lia | omega)) ⟨hIt, hl.at fun o e => hb _ _ e⟩ fun v h' tk hP hst' hk' => ?_))
  have hS' := hk' _ _ hSI hSo
  show wpAny _ A.in1 (updateSeq (s.heap.objs.size + 1) (fun _ => #[v, v]) >>= _) _ _ _
  refine wpAny_bind ?_
  refine wpAny_updateSeq hS' rfl ?_
  rw [hname]
  obtain ⟨q, hq⟩ : ∃ q, ps[0]? = some q := ⟨_, List.getElem?_eq_getElem hne⟩
  refine wpAny_pure ⟨plainId_quiet F.plain_min_loop _, min_loop (base := s.heap) hh hu (Nat.le_refl _) (Nat.le_succ _) (Nat.ne_of_lt (Nat.lt_succ_self _)) hl hz hr _ 0 _ v _ q rfl hne ((hst'.1).at fun o e => (Heap.get?_update_other _ _ (Nat.succ_ne_self _)).trans e) (fun b o e => ?_) (Heap.get?_update_self _ hS' rfl) (hr _ _ _ hP hq) ⟨0, hne, hP, hq⟩ (fun r hr' => ?_) fun v' p' h'' tk'' x1 x2 x3 => h v' p' h'' tk'' x1 x2 x3⟩
  · exact (Heap.get?_update_other _ _ (Nat.ne_of_gt (Nat.lt_succ_of_lt (Heap.lt_size e)))).trans (hk' b o (fun q => absurd (List.mem_singleton.mp q) (Nat.ne_of_lt (Heap.lt_size e))) (hb b o e))
  · rw [List.take_add_one, hq] at hr'
    have : r = q := by simpa using hr'
    subst this; rw [lexlt_false]; (first | lia | omega)
end
/- sorted() -/
section
variable {prog : Program} {w : World} {A : Around} {E : Value → Shared → Prop} {s : Shared}
theorem sort_tree {a : Addr} {vs : List Value} {n : Nat} {lt : Nat → Nat → Bool} {P : PySem.Fin → Shared → Prop} (W : SWO lt) (ho : s.heap.get? a = some (seqObj "list" vs.toArray n)) (h64 : vs.length < 64)
    (hk : ∀ h' : Heap, 2 ≤ vs.length → (∀ b o, b ≠ a → s.heap.get? b = some o → h'.get? b = some o) → ∃ κ, (∀ Q : SortKind → Shared → Prop, Q κ { s with heap := h' } → wpAny (model prog w) A (keyKind' vs.toArray) Q E { s with heap := h' }) ∧
      ∀ i j C, i < vs.length → j < vs.length → C (lt i j) { s with heap := h' } → kas_ask prog w A κ vs i j C { s with heap := h' })
    (h : ∀ (h' : Heap) (p : List Nat), (∀ b o, b ≠ a → s.heap.get? b = some o → h'.get? b = some o) → h'.PlainList a (p.map fun i => vs.getD i Value.none).toArray → p.Perm (List.range vs.length) → p.Pairwise (slt lt) → P (.done (.ret .none)) { s with heap := h' }) :
    wpAny (model prog w) A (Builtin.«list.sort» ⟨[.ref a], []⟩) P E s := by
  have ha : a < s.heap.objs.size := Heap.lt_size ho
  rw [list_sort_plain]
  refine wpAny_bind (listItems_at ho rfl ?_)
  refine wpAny_bind (listUpdate_at ho rfl ?_ (by rw [List.size_toArray, sizeLine_eq]; (first | lia | omega)) (Nat.zero_le _))
  obtain ⟨e1, ho1⟩ : ∃ e1, (s.heap.update a (Obj.mapSeq fun _ => (#[] : Array Value))).get? a = some (seqObj "list" #[] e1) := ⟨_, get?_update_seq ho fun _ => #[]⟩
  refine wpAny_bind (seqEpoch_at ho1 rfl ?_)
  refine wpAny_bind (wpAny_newTuple ?_ (by show vs.length ≤ _; rw [sizeLine_eq]; (first | lia | omega)))
  refine wpAny_bind (wpAny_newList ?_ (Nat.zero_le _))
  refine wpAny_holding ?_
  generalize hH : ((s.heap.update a (Obj.mapSeq fun _ => (#[] : Array Value))).push (seqObj "tuple" vs.toArray 0)).push (seqObj "list" #[] 0) = H
  have hHa : H.get? a = some (seqObj "list" #[] e1) := by rw [← hH]; exact Heap.get?_push_of_some _ (Heap.get?_push_of_some _ ho1)
  have hHk : ∀ b o, b ≠ a → s.heap.get? b = some o → H.get? b = some o := fun b o q e => by
    rw [← hH]; exact Heap.get?_push_of_some _ (Heap.get?_push_of_some _ ((Heap.get?_update_other _ _ (Ne.symm q)).trans e))
  show wpAny (model prog w) A _ P E { s with heap := H }
  dsimp only
  have fin : ∀ (p : List Nat) (out : Array Value), out = (p.map fun i => vs.getD i Value.none).toArray → p.Perm (List.range vs.length) → p.Pairwise (slt lt) → P (.done (.ret .none)) { s with heap := H.update a (Obj.mapSeq fun _ => out) } := fun p out e hp hs => by
    subst e
    refine h _ p (fun b o q e => (Heap.get?_update_other _ _ (Ne.symm q)).trans (hHk b o q e)) ⟨_, get?_update_seq hHa fun _ => _⟩ hp hs
  by_cases h2 : vs.toArray.size < 2
  · rw [if_pos h2, if_pos h2]
    rw [List.size_toArray] at h2
    refine wpAny_bind (wpAny_pure ?_)
    rw [StateT.run_pure]
    refine wpAny_bind (wpAny_pure ?_)
    dsimp only
    refine wpAny_bind (seqEpoch_at hHa rfl ?_)
    have e : (arrOf (SortSt.mk' general' (vs.toArray.zip vs.toArray) #[] 7 none)).map (·.2) = vs.toArray := by
      show (vs.toArray.zip vs.toArray).map (·.2) = vs.toArray
      apply Array.toList_inj.mp
      simp [List.map_snd_zip]
    refine wpAny_bind (listUpdate_at hHa rfl ?_ (Nat.zero_le _) (by rw [e, List.size_toArray, sizeLine_eq]; (first | lia | omega)))
    simp only [bne_self_eq_false, Bool.false_eq_true, if_false]
    refine wpAny_pure (fin (List.range vs.length) _ ?_ (List.Perm.refl _) ?_)
    · rw [e]
      apply Array.toList_inj.mp
      refine List.ext_getElem (by simp) fun i h1 h2 => ?_
      simp at h1
      simp [h1]
    · match vs, h2 with
      | [], _ => exact .nil
      | [v], _ => exact .cons (fun _ q => (nomatch q)) .nil
      | _ :: _ :: _, h2 => simp at h2; (first | lia | omega)
  · rw [if_neg h2, if_neg h2]
    rw [List.size_toArray] at h2
    obtain ⟨κ, k1, k2⟩ := hk H (by (first | lia | omega)) hHk
    refine wpAny_bind (k1 _ ?_)
    have run : (kas_sort vs.length).kasWp (kas_ask prog w A κ vs) (fun p s' => s' = { s with heap := H } ∧ p.toList.Perm (List.range vs.length) ∧ p.toList.Pairwise (slt lt)) { s with heap := H } :=
      sort_ok W (fun i j C hi hj hC => k2 i j C hi hj hC) (by (first | lia | omega)) fun P' hp hs => ⟨rfl, hp, hs⟩
    refine wpAny_bind (wpAny_mono (kat_run (ks := vs) (vs := vs) (Q := fun st' s' => s' = { s with heap := H } ∧ ∃ p : Array Nat, arrOf st' = p.map (kas_item (vs.toArray.zip vs.toArray)) ∧ failedOf st' = none ∧ p.toList.Perm (List.range vs.length) ∧ p.toList.Pairwise (slt lt))
      rfl (by (first | lia | omega)) h64 (fun p st' s' a1 a2 a3 a4 => ⟨a4.1, p, a2, a3, a4.2⟩) run) ?_ fun _ _ e => e)
    rintro ⟨⟨⟩, st'⟩ s' ⟨rfl, p, har, hf, hp, hs⟩
    dsimp only
    have hout := kat_snds (ks := vs) (vs := vs) rfl har
    rw [hout]
    refine wpAny_bind (seqEpoch_at hHa rfl ?_)
    refine wpAny_bind (listUpdate_at hHa rfl ?_ (Nat.zero_le _) (by have := hp.length_eq; simp only [List.length_range] at this; rw [List.size_toArray, List.length_map, this, sizeLine_eq]; (first | lia | omega)))
    rw [hf]
    simp only [bne_self_eq_false, Bool.false_eq_true, if_false]
    exact wpAny_pure (fin p.toList _ rfl hp hs)
theorem sorted_raw {l : Addr} {vs : List Value} {lt : Nat → Nat → Bool} {Q : Value → Shared → Prop} (W : SWO lt) (hl : s.heap.IsList l vs.toArray) (h64 : vs.length < 64)
    (hk : ∀ h' : Heap, 2 ≤ vs.length → (∀ b o, s.heap.get? b = some o → h'.get? b = some o) → ∃ κ, (∀ (Q : SortKind → Shared → Prop) (E : Value → Shared → Prop), Q κ { s with heap := h' } → wpAny (model prog w) A.in1.in1 (keyKind' vs.toArray) Q E { s with heap := h' }) ∧
      ∀ i j C, i < vs.length → j < vs.length → C (lt i j) { s with heap := h' } → kas_ask prog w A.in1.in1 κ vs i j C { s with heap := h' })
    (h : ∀ (h' : Heap) (a : Addr) (p : List Nat), s.heap.objs.size ≤ a → (∀ b o, s.heap.get? b = some o → h'.get? b = some o) → h'.PlainList a (p.map fun i => vs.getD i Value.none).toArray → p.Perm (List.range vs.length) → p.Pairwise (slt lt) → Q (.ref a) { s with heap := h' }) :
    wpAny (model prog w) A (call (.builtin "sorted") [.ref l]) Q E s := by
  refine Calls.call_function_entry kind_sorted plain_sorted entry_sorted (args_sorted1 _) ?_
  unfold Builtin.«sorted»
  refine wpAny_bind (m := checkCount "sorted" 1 1 _) (wpAny_pure ?_)
  refine wpAny_bind (collect_list hl ?_ (by rw [sizeLine_eq]; (first | lia | omega)))
  refine wpAny_bind (wpAny_newList ?_ (by rw [sizeLine_eq]; (first | lia | omega)))
  have hsz : ((s.heap.push (seqObj "list" #[] 0)).update s.heap.objs.size (Obj.mapSeq (· ++ vs.toArray))).objs.size = s.heap.objs.size + 1 := by
    rw [Heap.size_update, size_push']
  generalize hH : ((s.heap.push (seqObj "list" #[] 0)).update s.heap.objs.size (Obj.mapSeq (· ++ vs.toArray))).push (seqObj "list" vs.toArray 0) = H
  have hoL : H.get? (s.heap.objs.size + 1) = some (seqObj "list" vs.toArray 0) := by
    rw [← hH, ← hsz]; exact Heap.get?_push_size _ rfl
  have keep : ∀ b o, s.heap.get? b = some o → H.get? b = some o := fun b o q => by
    have hlt : b < s.heap.objs.size := Heap.lt_size q
    rw [← hH, Heap.get?_push_ne _ _ _ (by rw [hsz]; exact Nat.ne_of_lt (Nat.lt_succ_of_lt hlt)), Heap.get?_update_ne _ _ _ _ (Nat.ne_of_lt hlt), Heap.get?_push_ne _ _ _ (Nat.ne_of_lt hlt)]
    exact q
  have old : ∀ b o, s.heap.get? b = some o → b ≠ s.heap.objs.size + 1 := fun b o e => Nat.ne_of_lt (Nat.lt_succ_of_lt (Heap.lt_size e))
  show wpAny _ _ _ _ _ { s with heap := H }
  rw [hsz]
  refine wpAny_bind (wpAny_holding (wpAny_call_entry slot_list_sort ⟨_, hoL, rfl⟩ entry_list_sort (sort_tree (s := { s with heap := H }) W hoL h64 (fun h' h2 kp => ?_) fun h' p kp pl hp hs => ⟨_, rfl, ?_⟩) (args_list_sort _)))
  · obtain ⟨κ, k1, k2⟩ := hk h' h2 fun b o e => kp b o (old b o e) (keep b o e)
    exact ⟨κ, fun Q q => k1 Q _ q, k2⟩
  · exact wpAny_pure ⟨_, rfl, h h' _ p (Nat.le_succ _) (fun b o e => kp b o (old b o e) (keep b o e)) pl hp hs⟩

theorem pair_ask {b : Bool} {h : Heap} {x y : Value} {p q : Int × Int} {C : Bool → Shared → Prop} (hx : PairAt s.heap x p) (hy : PairAt s.heap y q) (hC : C (lexlt p q) s) : wpAny (model prog w) A (keyLt' (tuples' true) x y) C E s := by
  obtain ⟨a1, t1, u1, n1, rfl, e1⟩ := hx
  obtain ⟨a2, t2, u2, n2, rfl, e2⟩ := hy
  refine kat_lt e1 rfl e2 rfl ?_
  show KatLex prog w A true false C [(Value.int p.1 t1, Value.int q.1 t2), (Value.int p.2 u1, Value.int q.2 u2)] 0 s
  refine kat_cons (wpAny_eqBool_int ?_)
  by_cases z : p.1 = q.1
  · rw [z, beq_self_eq_true]
    refine kat_yes (kat_cons (wpAny_eqBool_int ?_))
    by_cases z2 : p.2 = q.2
    · rw [z2, beq_self_eq_true]
      refine kat_yes (kat_nil ?_)
      have : lexlt p q = false := by rw [lexlt_false]; (first | lia | omega)
      rw [this] at hC; exact hC
    · rw [beq_eq_false_iff_ne.mpr z2]
      refine kat_no (kat_one _ _ (PySem.P.lt_int ?_))
      have : lexlt p q = decide (p.2 < q.2) := by simp [lexlt, z]
      rw [this] at hC; exact hC
  · rw [beq_eq_false_iff_ne.mpr z]
    refine kat_no (oneLt_int ?_)
    have : lexlt p q = decide (p.1 < q.1) := by simp [lexlt, z]
    rw [this] at hC; exact hC
end
section
variable {C : Cx} {A : Around} {env : Env} {ρ : Rho} {σ : Store} {X : XP} {s : Shared}
theorem tups_of {h : Heap} : ∀ {vs : List Value} {ps : List (Int × Int)}, VRs h vs (ps.map pv) → ∃ fs, KatTups h vs fs ∧ fs.length = ps.length ∧ ∀ v ∈ fs, ∃ i t, v = Value.int i t
  | vs, [], r => by cases r; exact ⟨[], trivial, rfl, fun v hv => (nomatch hv)⟩
  | vs, p :: ps, r => by
    cases r with
    | cons r1 r2 =>
    obtain ⟨fs, k, l, f⟩ := tups_of r2
    obtain ⟨a, t, u, n, rfl, e⟩ := r1.pv_at
    refine ⟨.int p.1 t :: fs, ⟨⟨a, _, _, n, rfl, e, rfl, rfl, rfl⟩, k⟩, by simp [l], fun v hv => ?_⟩
    rcases List.mem_cons.mp hv with rfl | hv
    · exact ⟨_, _, rfl⟩
    · exact f v hv
theorem CallWP.sortedPairs {l : Addr} {ps : List (Int × Int)} {Q : V → Store → Prop} (hl : LstAt C σ l (ps.map pv)) (h64 : ps.length < 64)
    (h : ∀ (a : Addr) (ps' : List (Int × Int)), σ a = none → ps'.Perm ps → ps'.Pairwise (fun p q => lexlt q p = false) → Q (.ref a) (σ.upd a (.list (ps'.map pv)))) : CallWP C A (.builtin "sorted") [.ref l] σ Q X := by
  intro s vs S r
  cases r with
  | cons r1 r2 =>
  cases r2; cases r1
  obtain ⟨⟨vs⟩, il, rl⟩ := hl.raw S
  simp only at rl
  have el := rl.length
  simp only [List.length_map] at el
  have at_ : ∀ (i : Nat), i < vs.length → VR s.heap (vs.getD i Value.none) (pv (ps.getD i (0, 0))) := fun i hi => by
    have hi' : i < ps.length := by (first | lia | omega)
    obtain ⟨u, hu', ru⟩ := rl.get (i := i) (y := pv (ps.getD i (0, 0))) (by simp [hi'])
    have : u = vs.getD i Value.none := by simp [hu', List.getD]
    exact this ▸ ru
  refine sorted_raw (lexSWO fun i => ps.getD i (0, 0)) il (by (first | lia | omega)) (fun h' h2 kp => ?_) fun h' a p ha kp pl hp hs => ?_
  · refine ⟨tuples' true, fun Q E q => ?_, fun i j C hi hj hC => ?_⟩
    · obtain ⟨fs, k, lf, f⟩ := tups_of (rl.mono fun _ _ _ e => kp _ _ e)
      exact kat_kind (s := { s with heap := h' }) (T := .type "int") k (by (first | lia | omega)) (fun v hv => by obtain ⟨i, t, rfl⟩ := f v hv; exact .now) (by decide) q
    · exact pair_ask (s := { s with heap := h' }) (h := h') (b := true) ((at_ i hi).mono fun _ _ _ e => kp _ _ e).pv_at ((at_ j hj).mono fun _ _ _ e => kp _ _ e).pv_at hC
  · have S' : St C σ { s with heap := h', toks := s.toks } := S.ext kp
    have hpl := hp.length_eq
    have bound : ∀ i ∈ p, i < vs.length := fun i hi => by simpa using hp.mem_iff.mp hi
    have rr : ∀ q : List Nat, (∀ i ∈ q, i < vs.length) → VRs h' (q.map fun i => vs.getD i Value.none) ((q.map fun i => ps.getD i (0, 0)).map pv) := fun q => by
      induction q with
      | nil => exact fun _ => .nil
      | cons i q ih => exact fun hb => .cons ((at_ i (hb i (.head _))).mono fun _ _ _ e => kp _ _ e) (ih fun j hj => hb j (.tail _ hj))
    obtain ⟨S2, e2⟩ := S'.adopt (a := a) (o := .list ((p.map fun i => ps.getD i (0, 0)).map pv)) (σ0 := σ) (h0 := s.heap) ⟨_, pl, by simpa using rr p bound⟩ (Nat.le_trans S.size ha) (.ext kp) (get?_fresh' ha)
    refine ⟨.ref _, _, h a (p.map fun i => ps.getD i (0, 0)) (S.fresh' ha) ?_ ?_, .ref _, S2, e2⟩
    · have e : (List.range vs.length).map (fun i => ps.getD i (0, 0)) = ps := by
        rw [el]
        refine List.ext_getElem (by simp) fun i h1 h2 => ?_
        simp at h1; simp [h1]
      have := hp.map fun i => ps.getD i (0, 0)
      rw [e] at this; exact this
    · rw [List.pairwise_map]
      exact hs.imp fun {i j} z => z.not (lexSWO fun i => ps.getD i (0, 0))
end
section
variable {C : Cx} {A : Around} {env : Env} {ρ : Rho} {σ : Store} {X : XP} {s : Shared}
theorem CallWP.minPairs {l : Addr} {ps : List (Int × Int)} {Q : V → Store → Prop} (hh : A.handled = none) (hu : A.units + 1 < cLine) (hl : LstAt C σ l (ps.map pv)) (hne : 0 < ps.length) (h : ∀ p, p ∈ ps → (∀ q ∈ ps, lexlt q p = false) → Q (pv p) σ) :
    CallWP C A (.builtin "min") [.ref l] σ Q X := by
  intro s vs S r
  cases r with
  | cons r1 r2 =>
  cases r2; cases r1
  obtain ⟨items, il, rl⟩ := hl.raw S
  have el := rl.length
  simp only [Array.length_toList, List.length_map] at el
  have at_ : ∀ (i : Nat) (v : Value) (p : Int × Int), items[i]? = some v → ps[i]? = some p → VR s.heap v (pv p) := fun i v p hv hp => by
    obtain ⟨u, hu', ru⟩ := rl.get (i := i) (y := pv p) (by simp [hp])
    have : u = v := by simpa [hv] using hu'.symm
    exact this ▸ ru
  refine call_min_pairs hh hu il el hne (fun i v p hv hp => (at_ i v p hv hp).pv_at) fun v p h' tk ⟨i, hi, hv, hp⟩ hmin kp => ?_
  exact ⟨pv p, σ, h p (List.mem_of_getElem? hp) hmin, (at_ i v p hv hp).mono fun _ _ _ e => kp _ _ e, S.ext kp, .ext kp⟩
theorem Rho.gp_miss4 {x1 x2 x3 x4 y : Str} {v1 v2 v3 v4 : V} {u : Option V} {r : Rho} (h1 : y ≠ x1) (h2 : y ≠ x2) (h3 : y ≠ x3) (h4 : y ≠ x4) (k : Rho.get r y = u) : Rho.get (Rho.put (Rho.put (Rho.put (Rho.put r x1 v1) x2 v2) x3 v3) x4 v4) y = u :=
  Rho.gp_miss h4 (Rho.gp_miss h3 (Rho.gp_miss h2 (Rho.gp_miss h1 k)))
/- attributes of own objects, step by step -/
def AttrWP (C : Cx) (x : V) (name : Str) (σ1 : Store) (Q : V → Store → Prop) : Prop := ∃ a c dx es y attr, x = .ref a ∧ σ1 a = some (.inst c dx) ∧ σ1 dx = some (.sd es) ∧ sget es name = some y ∧ plainGet C.K c name = true ∧ hasDictIn C.K c = true ∧
      findIn C.K (.ref c) name = some attr ∧ noGet C.K attr = true ∧ (∀ i, y ≠ .blt i) ∧ Q y σ1
theorem Ev.attr' {o : Expr} {name : Str} {pos : Pos} {Q : V → Store → Prop} (h : Ev C A env o ρ σ (fun x σ1 => AttrWP C x name σ1 Q) X)
    (hbase : attributeBase o name env (eval o env) = eval o env := by kernel_rfl) : Ev C A env (.Attribute o name pos) ρ σ Q X := Ev.attr h hbase
theorem AttrWP.mk {a c dx : Addr} {es : List (Str × V)} {y : V} {attr : Option Value} {name : Str} {Q : V → Store → Prop} (h1 : σ a = some (.inst c dx)) (h2 : σ dx = some (.sd es)) (h3 : sget es name = some y) (k1 : plainGet C.K c name = true) (k2 : hasDictIn C.K c = true)
    (k3 : findIn C.K (.ref c) name = some attr) (k4 : noGet C.K attr = true) (k5 : ∀ i, y ≠ .blt i) (h : Q y σ) : AttrWP C (.ref a) name σ Q :=
  ⟨a, c, dx, es, y, attr, rfl, h1, h2, h3, k1, k2, k3, k4, k5, h⟩
def MethWP (C : Cx) (A : Around) (env : Env) (pos : Pos) (args : List Expr) (ρ : Rho) (x : V) (name : Str) (σ1 : Store) (Q : V → Store → Prop) (X : XP) : Prop := ∃ a c dx es f, x = .ref a ∧ σ1 a = some (.inst c dx) ∧ σ1 dx = some (.sd es) ∧ sget es name = none ∧ plainGet C.K c name = true ∧
      findIn C.K (.ref c) name = some (some (.ref f)) ∧ isFn C.K (.ref f) = true ∧ keepIn C.K (.ref f) = true ∧ Ags C A env pos args ρ σ1 (fun xs σ2 => CallWP C A (.ref f) (.ref a :: xs) σ2 Q X) X
theorem Ev.meth' {o : Expr} {name : Str} {apos pos : Pos} {args : List Expr} {Q : V → Store → Prop}
    (h : Ev C A env o ρ σ (fun x σ1 => MethWP C A env pos args ρ x name σ1 Q X) X)
    (he : eval (.Call (.Attribute o name apos) args [] pos) env = (do
      let ov ← eval o env
      standAt apos.atName
      let (f, first) ← holding [ov] (getMethod ov name (do return (← importBound o env).getD true))
      callWith pos f first (backTo pos (starEach args env)) (backToKw pos (keywordEach [] env))) := by kernel_rfl)
    (hst : (backTo pos (starEach args env)).any (·.1) = false := by kernel_rfl) : Ev C A env (.Call (.Attribute o name apos) args [] pos) ρ σ Q X := Ev.meth h he hst
theorem MethWP.mk {a c dx f : Addr} {es : List (Str × V)} {name : Str} {pos : Pos} {args : List Expr} {Q : V → Store → Prop} (h1 : σ a = some (.inst c dx)) (h2 : σ dx = some (.sd es)) (h3 : sget es name = none) (k1 : plainGet C.K c name = true)
    (k2 : findIn C.K (.ref c) name = some (some (.ref f))) (k3 : isFn C.K (.ref f) = true) (k4 : keepIn C.K (.ref f) = true) (h : Ags C A env pos args ρ σ (fun xs σ2 => CallWP C A (.ref f) (.ref a :: xs) σ2 Q X) X) : MethWP C A env pos args ρ (.ref a) name σ Q X :=
  ⟨a, c, dx, es, f, rfl, h1, h2, h3, k1, k2, k3, k4, h⟩
def SAttWP (C : Cx) (x : V) (name : Str) (y : V) (σ1 : Store) (Q : Store → Prop) : Prop := ∃ a c dx es, x = .ref a ∧ σ1 a = some (.inst c dx) ∧ σ1 dx = some (.sd es) ∧ es.length ≤ 1000 ∧
      findIn C.K (.ref c) "__setattr__" = some (some (.builtin "object.__setattr__")) ∧ plainOver C.K c = true ∧ takerIn C.K c name = some none ∧ hasDictIn C.K c = true ∧ Q (σ1.upd dx (.sd (sput es name y)))
theorem Asg.attr' {o : Expr} {name : Str} {pos : Pos} {y : V} {Q : Rho → Store → Prop} (h : Ev C A env o ρ σ (fun x σ1 => SAttWP C x name y σ1 (fun σ2 => Q ρ σ2)) X) : Asg C A env (.Attribute o name pos) y ρ σ Q X := Asg.attr h
theorem SAttWP.mk {a c dx : Addr} {es : List (Str × V)} {y : V} {name : Str} {Q : Store → Prop} (h1 : σ a = some (.inst c dx)) (h2 : σ dx = some (.sd es)) (h3 : es.length ≤ 1000) (k1 : findIn C.K (.ref c) "__setattr__" = some (some (.builtin "object.__setattr__")))
    (k2 : plainOver C.K c = true) (k3 : takerIn C.K c name = some none) (k4 : hasDictIn C.K c = true) {es' : List (Str × V)} (hp : sput es name y = es') (h : Q (σ.upd dx (.sd es'))) : SAttWP C (.ref a) name y σ Q :=
  ⟨a, c, dx, es, rfl, h1, h2, h3, k1, k2, k3, k4, hp ▸ h⟩
theorem sput_nil {x : Str} {v : V} : sput [] x v = [(x, v)] := rfl
theorem sput_hit {x : Str} {u v : V} {r : List (Str × V)} : sput ((x, u) :: r) x v = (x, v) :: r := by simp [sput]
theorem sput_miss {x y : Str} {u v : V} {r r' : List (Str × V)} (h : x ≠ y) (k : sput r x v = r') : sput ((y, u) :: r) x v = (y, u) :: r' := by simp [sput, h, k]
theorem sget_nil {x : Str} : sget [] x = none := rfl

/- making an own object -/
def CodC (C : Cx) (A : Around) (f : Value) (args : List V) (σ : Store) (Q : V → Store → Prop) : Prop :=
  ∀ s vs, St C σ s → VRs s.heap vs args → codeAny C.M A (.call f ⟨vs, []⟩) (fun r s' => match r with | .ok (.ret v) => EP C σ s.heap Q v s' | _ => False) s
theorem CodC.fn {f : Addr} {o : Obj} {fd : FuncData} {body : List Stmt} {names : List Str} {args : List V} {Q : V → Store → Prop}
    (ho : C.h₀.get? f = some o) (hd : o.data = .func fd) (hlim : C.h₀.NoLimit) (hcd : C.h₀.CodeRec fd.code fd.qualname) (hbody : fd.body = .stmts body)
    (hbind : ∀ vals : List Value, vals.length = args.length → bindArgs fd ⟨vals, []⟩ = pure (names.zip vals)) (hclo : fd.closure = []) (nd : names.Nodup)
    (hkind : ∀ x ∈ names, fd.scope.names.lookup x = some .local ∨ (fd.scope.names.lookup x = some .cell ∧ ∀ L, ((cellsFrom L fd.scope.names []).lookup x).isSome = true))
    (hroom : A.depth < recursionLimit) (hsc : scopeOk fd.scope = true) (hco : fd.scope.isCoroutine = false) (hgen : fd.scope.isGenerator = false) (hk : fd.scope.kind = .function)
    (h : ∀ L, Exs C (A.deeper (callEnvC fd L f)) (callEnvC fd L f) body (names.zip args) σ (fun g _ σ' => Q g.val σ') (fun _ _ => False)) : CodC C A (.ref f) args σ Q := by
  intro s vs S r
  have hk' : ∀ b o, C.h₀.get? b = some o → s.heap.get? b = some o := S.base
  refine codeAny_call_cells (fd := fd) hroom (hk' _ _ ho) hd (hlim.keeps hk') (hcd.keeps hk') hbody (hbind vs r.length) hclo ?_ (fun s₁ x => ?_) hco hgen hk
  · intro y hy
    rcases hkind y.1 (List.of_mem_zip hy).1 with q | ⟨q, q'⟩
    · exact .inl q
    · exact .inr ⟨q, q' _⟩
  · obtain ⟨S₁, F₁, keep⟩ := S.callee r nd hk hsc x
    refine wpAny_mono (h s.heap.objs.size s₁ S₁ F₁) (fun fl s' z => ?_) (fun _ _ z => z.elim)
    have y := EP.ret S keep (fun n c hc => x.above n c (mem_of_lookup hc)) z
    cases fl <;> exact y
theorem CodC.def {f : Addr} {name qual : Str} {params : Arguments} {body : List Stmt} {scope : Scope} {dV kV doc pm cdv ct oc : Value} {an od : Option Addr} {osl : Array (Option Value)} (names : List Str) {args : List V} {Q : V → Store → Prop}
    (ho : C.K.lookup f = some ⟨oc, od, .func (fnOf name qual params body scope dV kV doc pm an cdv ct), osl⟩) (hcd : codeIn C.K cdv qual = true)
    (hroom : A.depth < recursionLimit)
    (hbind : ∀ vals : List Value, vals.length = args.length → bindArgs (fnOf name qual params body scope dV kV doc pm an cdv ct) ⟨vals, []⟩ = pure (names.zip vals)) (nd : names.Nodup)
    (hkind : (names.all fun y => scope.names.lookup y == some .local || scope.names.lookup y == some .cell) = true) (hsc : scopeOk scope = true) (hco : scope.isCoroutine = false) (hgen : scope.isGenerator = false) (hk : scope.kind = .function)
    (h : ∀ L A', A'.handled = A.handled → A'.depth = A.depth + 1 → A'.units = A.units + 3 → Exs C A' (mkE scope L (cellsFrom (L + 1) scope.names []) (qual ++ ".<locals>.") (some f) cdv (some L)) body (names.zip args) σ (fun g _ σ' => Q g.val σ') (fun _ _ => False)) :
    CodC C A (.ref f) args σ Q := by
  refine CodC.fn (C.KX _ _ ho) rfl C.lim (codeRec_of C.KX hcd) rfl hbind rfl nd (fun x hx => ?_) hroom hsc hco hgen hk (fun L => h L _ rfl rfl rfl)
  have := List.all_eq_true.mp hkind x hx
  rcases Bool.or_eq_true_iff.mp this with q | q
  · exact .inl (by simpa using q)
  · have q' : scope.names.lookup x = some .cell := by simpa using q
    exact .inr ⟨q', fun L => cellsFrom_some _ _ _ (.inl q')⟩
theorem CodC.def1 (x1 : Str) {f : Addr} {name qual : Str} {params : Arguments} {body : List Stmt} {scope : Scope} {dV kV doc pm cdv ct oc : Value} {an od : Option Addr} {osl : Array (Option Value)} {v1 : V} {Q : V → Store → Prop}
    (ho : C.K.lookup f = some ⟨oc, od, .func (fnOf name qual params body scope dV kV doc pm an cdv ct), osl⟩) (hcd : codeIn C.K cdv qual = true) (hroom : A.depth < recursionLimit)
    (hbind : ∀ u1 : Value, bindArgs (fnOf name qual params body scope dV kV doc pm an cdv ct) ⟨[u1], []⟩ = pure [(x1, u1)]) (nd : ([x1] : List Str).Nodup)
    (hkind : (([x1] : List Str).all fun y => scope.names.lookup y == some .local || scope.names.lookup y == some .cell) = true) (hsc : scopeOk scope = true) (hco : scope.isCoroutine = false) (hgen : scope.isGenerator = false) (hk : scope.kind = .function)
    (h : ∀ L A', A'.handled = A.handled → A'.depth = A.depth + 1 → A'.units = A.units + 3 → Exs C A' (mkE scope L (cellsFrom (L + 1) scope.names []) (qual ++ ".<locals>.") (some f) cdv (some L)) body [(x1, v1)] σ (fun g _ σ' => Q g.val σ') (fun _ _ => False)) :
    CodC C A (.ref f) [v1] σ Q :=
  CodC.def [x1] (args := [v1]) ho hcd hroom (fun vals hl => by obtain ⟨u1, t1, rfl, h1⟩ := lenS hl; obtain rfl := List.eq_nil_of_length_eq_zero h1; exact hbind u1) nd hkind hsc hco hgen hk h
theorem CodC.def3 (x1 x2 x3 : Str) {f : Addr} {name qual : Str} {params : Arguments} {body : List Stmt} {scope : Scope} {dV kV doc pm cdv ct oc : Value} {an od : Option Addr} {osl : Array (Option Value)} {v1 v2 v3 : V} {Q : V → Store → Prop}
    (ho : C.K.lookup f = some ⟨oc, od, .func (fnOf name qual params body scope dV kV doc pm an cdv ct), osl⟩) (hcd : codeIn C.K cdv qual = true) (hroom : A.depth < recursionLimit)
    (hbind : ∀ u1 u2 u3 : Value, bindArgs (fnOf name qual params body scope dV kV doc pm an cdv ct) ⟨[u1, u2, u3], []⟩ = pure [(x1, u1), (x2, u2), (x3, u3)]) (nd : ([x1, x2, x3] : List Str).Nodup)
    (hkind : (([x1, x2, x3] : List Str).all fun y => scope.names.lookup y == some .local || scope.names.lookup y == some .cell) = true) (hsc : scopeOk scope = true) (hco : scope.isCoroutine = false) (hgen : scope.isGenerator = false) (hk : scope.kind = .function)
    (h : ∀ L A', A'.handled = A.handled → A'.depth = A.depth + 1 → A'.units = A.units + 3 → Exs C A' (mkE scope L (cellsFrom (L + 1) scope.names []) (qual ++ ".<locals>.") (some f) cdv (some L)) body [(x1, v1), (x2, v2), (x3, v3)] σ (fun g _ σ' => Q g.val σ') (fun _ _ => False)) :
    CodC C A (.ref f) [v1, v2, v3] σ Q :=
  CodC.def [x1, x2, x3] (args := [v1, v2, v3]) ho hcd hroom (fun vals hl => by obtain ⟨u1, t1, rfl, h1⟩ := lenS hl; obtain ⟨u2, t2, rfl, h2⟩ := lenS h1; obtain ⟨u3, t3, rfl, h3⟩ := lenS h2; obtain rfl := List.eq_nil_of_length_eq_zero h3; exact hbind u1 u2 u3) nd hkind hsc hco hgen hk h
theorem CallWP.cls {c fI : Addr} {args : List V} {Q : V → Store → Prop} (hm : makesIn C.K c = true) (hi : findIn C.K (.ref c) "__init__" = some (some (.ref fI))) (hf : typeIn C.K (.ref fI) = some (.type "function"))
    (h : ∀ a dx A', σ a = none → σ dx = none → a ≠ dx → A'.handled = A.handled → A'.depth = A.depth + 1 → A'.units ≤ A.units + 2 → CodC C A' (.ref fI) (.ref a :: args) ((σ.upd dx (.sd [])).upd a (.inst c dx)) (fun v σ' => v = .none ∧ Q (.ref a) σ')) :
    CallWP C A (.ref c) args σ Q X := by
  intro s vs S r
  obtain ⟨hh, g, d, t, os⟩ := s
  refine wpAny_call ?_
  obtain ⟨S2, e2⟩ := S.new (t := t) (x := emptyDict) (o := .sd []) ⟨[], Heap.DictOf.new _, .nil⟩
  have hsz := push_size hh emptyDict
  obtain ⟨S3, e3⟩ := S2.new (t := t) (x := instObj c hh.objs.size) (o := .inst c hh.objs.size) (Heap.get?_push_size _ rfl)
  dsimp only at S3 e3 hsz
  rw [hsz] at S3 e3
  have hne : hh.objs.size + 1 ≠ hh.objs.size := Nat.succ_ne_self _
  have hfr : σ (hh.objs.size + 1) = none := S.fresh' (Nat.le_succ _)
  refine make_core (makes_of S.K hm) (looks_findIn S.K hi) (fun self => bind_fn S.K self hf) (.inl rfl) ?_
  refine codeAny_mono (h (hh.objs.size + 1) hh.objs.size (A.under (.builtin "type.__call__" ⟨.ref c :: vs, []⟩)) hfr S.fresh hne rfl rfl (Nat.add_le_add_left (show (Code.builtin "type.__call__" ⟨.ref c :: vs, []⟩).cUnits ≤ 2 from Nat.le_of_ble_eq_true rfl) _) _ (.ref (hh.objs.size + 1) :: vs) S3 (.cons (.ref _) (r.mono (e2.trans e3).tup))) ?_
  rintro (e | f) s' z
  · exact z.elim
  · cases f <;> first | exact False.elim z | skip
    obtain ⟨x, σ', ⟨rfl, q⟩, rv, S', e'⟩ := z
    cases rv
    exact ⟨rfl, .ref _, σ', q, .ref _, S', (e2.trans e3).trans e'⟩

/- slices of lists -/
theorem pick_range {α : Type} (xs : List α) : ∀ (k n : Nat), k + n ≤ xs.length → ((List.range n).map fun i => k + i).filterMap (xs[·]?) = (xs.drop k).take n
  | k, 0, _ => by simp
  | k, n + 1, h => by
    have hk : k < xs.length := by (first | lia | omega)
    have ih := pick_range xs (k + 1) n (by (first | lia | omega))
    rw [List.range_succ_eq_map, List.map_cons, List.map_map, List.filterMap_cons]
    have e0 : xs[k + 0]? = some xs[k] := by simp [hk]
    rw [e0]
    have e1 : (List.range n).map ((fun i => k + i) ∘ Nat.succ) = (List.range n).map fun i => k + 1 + i := List.map_congr_left fun i _ => by simp only [Function.comp]; (first | lia | omega)
    rw [e1, ih, List.drop_eq_getElem_cons hk, List.take_succ_cons]

theorem pySlice_from {α : Type} (xs : List α) (k : Nat) (h : k ≤ xs.length) : pySlice xs (some (k : Int)) none = xs.drop k := by
  unfold pySlice
  have e : sliceBounds (some (k : Int)) none none xs.length = (((k : Nat) : Int), ((xs.length : Nat) : Int), 1) := by
    simp only [sliceBounds, Option.getD_none]
    have : ¬ ((k : Int) < 0) := by (first | lia | omega)
    simp [this]; (first | lia | omega)
  rw [e]
  simp only
  rw [sliceRange_one, pick_range xs k (xs.length - k) (by (first | lia | omega))]
  exact List.take_of_length_le (by simp)

/- dict.pop(key) -/
def idel (es : List (Int × V)) (k : Int) : List (Int × V) := es.filter fun p => !decide (p.1 = k)
end
end Mine

set_option autoImplicit false
set_option linter.unusedVariables false
set_option maxRecDepth 100000
set_option maxHeartbeats 4000000
namespace Mine
open PySem PySem.W PySem.SeqAt PyProof.Rows PySem.Calls

def CodeAt (h : Heap) (c : Addr) (q : Str) : Prop := ∃ o vs t, h.get? c = some o ∧ o.cls = .type "code" ∧ o.data = .fields vs ∧ vs[1]? = some (.str q t)
theorem CodeAt.mono {h h' : Heap} {c : Addr} {q : Str} (x : CodeAt h c q) (k : TupKeep h h') : CodeAt h' c q :=
  let ⟨o, vs, t, e, h1, h2, h3⟩ := x; ⟨o, vs, t, k _ _ (.inr (.inr ⟨h1, vs, h2⟩)) e, h1, h2, h3⟩
theorem CodeAt.rec' {h : Heap} {c : Addr} {q : Str} (x : CodeAt h c q) : h.CodeRec (.ref c) q :=
  let ⟨o, vs, t, e, h1, h2, h3⟩ := x; ⟨c, o, vs, t, rfl, e, h2, h3⟩
def LamAt (h : Heap) (f : Addr) (params : Arguments) (body : Expr) (scope : Scope) (clos : List (Str × Addr)) (q : Str) : Prop :=
  ∃ pm c' ctv, h.get? f = some (kla_obj "<lambda>" q params body scope clos pm c' ctv) ∧ CodeAt h c' q
def BMod (C : Cx) : Prop := ∃ bm ob, C.mg "__builtins__" = some (.ref bm) ∧ bm ≠ builtinsNs ∧ C.h₀.get? bm = some ob ∧ ob.cls = .type "module" ∧ ob.dict = some builtinsNs ∧ ob.data = .plain

section
variable {C : Cx} {A : Around} {env : Env} {ρ : Rho} {σ : Store} {X : XP} {s : Shared}
theorem LamAt.evo {σ' : Store} {h h' : Heap} {f : Addr} {params : Arguments} {body : Expr} {scope : Scope} {clos : List (Str × Addr)} {q : Str} (x : LamAt h f params body scope clos q) (e : Evo σ h σ' h') (hf : σ f = none) : LamAt h' f params body scope clos q :=
  let ⟨pm, c', ctv, ho, hc⟩ := x; ⟨pm, c', ctv, (e.keep _ _ ho hf).exact fun _ _ z => (by cases z), hc.mono e.tup⟩

theorem lam_make {E : XP} {c P : Addr} {params : Arguments} {body : Expr} {lsc : Scope} {lpos : Pos} {fl : Nat} {clos : List (Str × Addr)} {q : Str} {Q : Value → Shared → Prop} (S : St C σ s) (hcode : env.code = .ref c) (hg0 : env.globals = mainGlobals) (hcl : closureFor lsc env = pure clos)
    (Cd : CodeHd C.h₀ c P) (hP : σ P = some (.tab lpos q)) (hB : BMod C)
    (h : ∀ f s2, St C σ s2 → Evo σ s.heap σ s2.heap → σ f = none → LamAt s2.heap f params body lsc clos q → Q (.ref f) s2) :
    wpAny C.M A (makeFunction "<lambda>" q params (.expr body) lsc env [] [] [] lpos fl) Q E s := by
  have hg : s.heap.Ns mainGlobals C.mg := C.hg.keeps S.base
  have Cs := Cd.keeps S.base
  obtain ⟨bm, ob, b1, b2, b3, b4, b5, b6⟩ := hB
  have hPb : C.h₀.get? P = none := (S.above _ _ hP).1
  have hbP : bm ≠ P := fun z => by rw [z, hPb] at b3; cases b3
  have hbG : bm ≠ mainGlobals := fun z => by
    obtain ⟨o, es, ep, e, hd, _⟩ := C.hg
    rw [z, e] at b3; cases b3; rw [hd] at b6; cases b6
  have hgP : mainGlobals ≠ P := fun z => by
    obtain ⟨o, es, ep, e, hd, _⟩ := C.hg
    rw [z, hPb] at e; cases e
  have hbs := S.base _ _ b3
  rcases S.rep _ _ hP with e | ⟨c', o, vs, t, e, e2, h1, h2, h3⟩
  · have fin : ∀ c' ctv h' tk, Heap.ExtBut P s.heap h' → s.heap.objs.size ≤ c' → CodeAt h' c' q → h'.get? P = some (tabObj (#[] ++ #[rawInt lpos.line, rawInt lpos.col, .ref c'])) →
        Q (.ref h'.objs.size) { s with heap := h'.push (kla_obj "<lambda>" q params body lsc clos ((C.mg "__name__").getD .none) c' ctv), toks := tk } := fun c' ctv h' tk hx hge hc hp => by
      have kp : ∀ b o, ¬ b = P → s.heap.get? b = some o → h'.get? b = some o := fun b o z w => hx b o z w
      have nt : ∀ b o, b = P → s.heap.get? b = some o → ¬ Imm o := fun b o z => by subst z; exact (S.rep _ _ hP).notTup o
      have tk' : TupKeep s.heap h' := tk_ow (ow := fun b => b = P) kp nt
      have S1 : St C σ { s with heap := h', toks := tk } := by
        refine ⟨fun b o w => kp b o (fun z => by rw [z, hPb] at w; cases w) (S.base b o w), fun a o w => ?_, S.above, S.gens, S.os⟩
        by_cases z : a = P
        · subst z
          rw [hP] at w; cases w
          obtain ⟨oc, vs, t, z1, z2, z3, z4⟩ := hc
          exact .inr ⟨c', oc, vs, t, by simpa using hp, z1, z2, z3, z4⟩
        · exact (S.rep a o w).at (fun x hx' => kp a x z hx') tk'
      have e1 : Evo σ s.heap σ h' := ⟨fun b o w n => .inl (kp b o (fun z => by rw [z, hP] at n; cases n) w), fun b o w => .inl ⟨o, w⟩, fun b o w => ⟨o, w⟩, tk'⟩
      have hsz : s.heap.objs.size ≤ h'.objs.size := by
        have : c' < h'.objs.size := by obtain ⟨oc, _, _, z1, _⟩ := hc; exact Heap.lt_size z1
        exact Nat.le_trans hge (Nat.le_of_lt this)
      exact h _ _ S1.push (e1.trans .push) (S.fresh' hsz) ⟨_, c', ctv, Heap.get?_push_size _ rfl, hc.mono fun _ _ _ w => Heap.get?_push_of_some _ w⟩
    have codeAt : ∀ {h' : Heap} {c' P' : Addr}, h'.CodeRec (.ref c') q → h'.TableAt c' P' #[] → CodeAt h' c' q := fun {h' c' P'} hr ht => by
      obtain ⟨_, oc, vs, t, z, z1, z2, z3⟩ := hr
      cases z
      obtain ⟨⟨o', vs', y1, y2, _⟩, _⟩ := ht
      rw [z1] at y1; cases y1
      exact ⟨_, vs, t, z1, y2, z2, z3⟩
    rw [makeFunction_eq]
    simp only [List.zip_nil_right, List.filterMap_nil, List.isEmpty_nil, if_true, pure_bind]
    unfold makeTail
    rw [hcl, hg0]
    refine wpAny_bind (wpAny_pure ?_)
    cases clos with
    | nil =>
      simp only [List.isEmpty_nil, if_true]
      refine wpAny_bind (wpAny_pure ?_)
      refine wpAny_bind (wpAny_functionCodeX hcode (Cs.code e trivial) (Cs.tab e) rfl fun c' h' tk hx hge hlt _ hrec htb hnew => ?_)
      have hg' := hg.extBut hx hgP
      refine wpAny_bind (wpAny_builtinsFor hg' b1 b2 (hx _ _ hbP hbs) b4 b5 b6 ?_)
      refine wpAny_bind (wpAny_nsGet hg' ?_)
      obtain ⟨P', _, _, ht'⟩ := hnew
      exact wpAny_bind (wpAny_pure (wpAny_newObj_type (fin c' .none h' tk hx hge (codeAt hrec ht') htb.2) (by size_fits)))
    | cons q0 r =>
      simp only [List.isEmpty_cons, Bool.false_eq_true, if_false]
      refine wpAny_bind (wpAny_newTextTuple ?_)
      refine wpAny_bind (wpAny_functionCodeX hcode ((Cs.keeps fun b o e => Heap.get?_push_of_some _ e).code (Heap.get?_push_of_some _ e) trivial) ((Cs.keeps fun b o e => Heap.get?_push_of_some _ e).tab (Heap.get?_push_of_some _ e)) rfl fun c' h' tk hx hge hlt _ hrec htb hnew => ?_)
      have hg' := (hg.push _).extBut hx hgP
      have hx' : Heap.ExtBut P s.heap h' := fun b o hb' e => hx b o hb' (Heap.get?_push_of_some _ e)
      have hge' : s.heap.objs.size ≤ c' := Nat.le_trans (by rw [Heap.size_push]; (first | lia | omega)) hge
      refine wpAny_bind (wpAny_builtinsFor hg' b1 b2 (hx' _ _ hbP hbs) b4 b5 b6 ?_)
      refine wpAny_bind (wpAny_nsGet hg' ?_)
      obtain ⟨P', _, _, ht'⟩ := hnew
      exact wpAny_bind (wpAny_pure (wpAny_newObj_type (fin c' _ h' tk hx' hge' (codeAt hrec ht') htb.2) (by size_fits)))
  · refine kla_makeFunctionHit (mg := C.mg) (cv := .ref c') hcl hg0 hg hcode Cs e (by simp [TriplesOk, rawInt]) (by simp [codeAmong, rawInt]) ⟨bm, ob, b1, b2, hbG, hbP, hbs, b4, b5, b6⟩ fun ctv h' tk hk hsz => ?_
    have S1 : St C σ { s with heap := h', toks := tk } := S.ext hk
    exact h _ _ S1.push ((Evo.ext hk).trans .push) (S.fresh' hsz) ⟨_, c', ctv, Heap.get?_push_size _ rfl, o, vs, t, Heap.get?_push_of_some _ (hk _ _ e2), h1, h2, h3⟩

def lamOk (scope : Scope) : Bool := scope.names.all fun p => p.2 != .cell && (p.2 != .free || scope.names.lookup p.1 == some .free)
theorem lam_call {params : Arguments} {body : Expr} {lsc : Scope} {q pn : Str} {f : Addr} {v : Value} {x : V} {ρc : Rho} {E : XP} {Q : V → Store → Prop} (S : St C σ s) (F : Fm C σ s.heap env ρ) (hf : LamAt s.heap f params body lsc (clOf env.cells lsc.names []) q) (rv : VR s.heap v x) (hroom : A.depth < recursionLimit)
    (hbind : ∀ pm cdv ctv, bindArgs (kla_fn "<lambda>" q params body lsc (clOf env.cells lsc.names []) pm cdv ctv) ⟨[v], []⟩ = pure [(pn, v)]) (hco : lsc.isCoroutine = false) (hgen : lsc.isGenerator = false) (hk : lsc.kind = .function) (hpn : lsc.names.lookup pn = some .local)
    (hok : lamOk lsc = true) (hfree : (lsc.names.all fun p => p.2 != .free || (env.cells.lookup p.1).isSome) = true) (cap : Capt ρ lsc.names ρc)
    (h : ∀ L' cdv A', A'.handled = A.handled → A'.units ≤ A.units + 3 → Ev C A' (mkE lsc L' (clOf env.cells lsc.names []) (q ++ ".<locals>.") (some f) cdv (some L')) body ((pn, x) :: ρc) σ Q (fun _ _ => False)) :
    wpAny C.M A (call (.ref f) [v]) (EP C σ s.heap Q) E s := by
  have names_of : ∀ p ∈ lsc.names, p.2 ≠ .cell ∧ (p.2 = .free → lsc.names.lookup p.1 = some .free) := fun p hp => by
    have := List.all_eq_true.mp hok p hp
    simp only [Bool.and_eq_true, bne_iff_ne, ne_eq, Bool.or_eq_true, beq_iff_eq] at this
    refine ⟨this.1, fun e => ?_⟩
    rcases this.2 with z | z
    · exact absurd e z
    · exact z
  have cl_of : ∀ y c, (clOf env.cells lsc.names []).lookup y = some c → env.cells.lookup y = some c ∧ lsc.names.lookup y = some .free := fun y c hy => by
    rcases clOf_mem (mem_of_lookup hy) with z | ⟨z, e⟩
    · cases z
    · have h1 := List.all_eq_true.mp hfree _ z
      have h2 : (env.cells.lookup y).isSome = true := by simpa using h1
      obtain ⟨c', hc'⟩ := Option.isSome_iff_exists.mp h2
      rw [hc'] at e
      exact ⟨by rw [hc', e]; rfl, (names_of _ z).2 rfl⟩
  obtain ⟨pm, c', ctv, ho, hcd⟩ := hf
  refine wpAny_call (kla_callFunE hroom ho rfl hco hgen rfl hcd.rec' ?_)
  rw [hbind]
  refine wpAny_pure (wpAny_newFunctionEnv (fun p hp => (names_of p hp).1) (fun y hy => by rw [List.mem_singleton.mp hy]; exact hpn) (fun h₁ hns hsb => ⟨((C.lim).keeps S.base).fresh _ hsb, ?_⟩) hk)
  have kp : ∀ b o, s.heap.get? b = some o → h₁.get? b = some o := fun b o e => hsb.extBut b o (Nat.ne_of_lt (Heap.lt_size e)) (Heap.get?_push_of_some _ e)
  have e1 : Evo σ s.heap σ h₁ := .ext kp
  have F1 := F.evo e1
  have F2 : Fm C σ h₁ (mkE lsc s.heap.objs.size (clOf env.cells lsc.names []) (q ++ ".<locals>.") (some f) (.ref c') (some s.heap.objs.size)) ((pn, x) :: ρc) := by
    refine ⟨hk, ⟨_, hns, fun y w hy hw => ?_⟩, S.fresh, S.size, fun y c hy => ?_, fun y c hy => ?_, fun y z c hy hz => ?_⟩
    · have hw' : (if y = pn then some x else Rho.get ρc y) = some w := hw
      by_cases z : y = pn
      · subst z
        rw [if_pos rfl] at hw'; cases hw'
        exact ⟨v, by simp [List.lookup], rv.mono e1.tup⟩
      · rw [if_neg z] at hw'
        have h1 := (names_of _ (cap.get hw').2).2 rfl
        have h2 : lsc.names.lookup y = some .local := hy
        rw [h1] at h2; cases h2
    · obtain ⟨h1, h2⟩ := cl_of y c hy
      obtain ⟨ov, a, b⟩ := F1.cell y c h1
      refine ⟨ov, a, fun w hw => ?_⟩
      have hw' : (if y = pn then some x else Rho.get ρc y) = some w := hw
      by_cases z : y = pn
      · rw [z, hpn] at h2; cases h2
      · rw [if_neg z] at hw'
        exact b w (cap.get hw').1
    · obtain ⟨h1, _⟩ := cl_of y c hy
      obtain ⟨n1, n2, n3⟩ := F.ncell y c h1
      obtain ⟨ov, a, b⟩ := F.cell y c h1
      exact ⟨n1, Nat.ne_of_lt a.lt, n3⟩
    · exact F.apart y z c (cl_of y c hy).1 (cl_of z c hz).1
  refine kla_codeExpr (wpAny_mono (h s.heap.objs.size (.ref c') (A.deeper (mkE lsc s.heap.objs.size (clOf env.cells lsc.names []) (q ++ ".<locals>.") (some f) (.ref c') (some s.heap.objs.size))) rfl (Nat.le_refl _) { s with heap := h₁, toks := s.toks + 1 } (S.ext (t := s.toks + 1) kp) F2) (fun w s' z => ?_) fun _ _ z => z.elim)
  exact z.after e1

theorem ints_get {ks : List Int} {vs : List Value} (h : IntsAre vs ks) {i : Nat} (hi : i < vs.length) : ∃ t, vs.getD i Value.none = .int (ks.getD i 0) t := by
  induction h generalizing i with
  | nil => simp at hi
  | cons a u r ih =>
    cases i with
    | zero => exact ⟨u, rfl⟩
    | succ i => simpa using ih (i := i) (by simpa using hi)

/-- sorted(l, key=f) -/
theorem sorted_key {l f : Addr} {xs : List V} {key : V → Int} {params : Arguments} {body : Expr} {lsc : Scope} {clos : List (Str × Addr)} {q : Str} {Q : V → Store → Prop} (S : St C σ s) (F : Fm C σ s.heap env ρ) (hl : LstAt C σ l xs) (h64 : xs.length < 64) (hfn : σ f = none) (hL : LamAt s.heap f params body lsc clos q)
    (turn : ∀ x ∈ xs, ∀ s2 v, St C σ s2 → Fm C σ s2.heap env ρ → LamAt s2.heap f params body lsc clos q → VR s2.heap v x → wpAny C.M A.in1.in1 (call (.ref f) [v]) (EP C σ s2.heap (fun k σ3 => σ3 = σ ∧ k = .int (key x))) (fun _ _ => False) s2)
    (h : ∀ (a : Addr) (p : List Nat), σ a = none → p.Perm (List.range xs.length) → p.Pairwise (slt fun i j => decide (key (xs.getD i .none) < key (xs.getD j .none))) → Q (.ref a) (σ.upd a (.list (p.map fun i => xs.getD i .none)))) :
    wpAny C.M A (call (.builtin "sorted") [.ref l] [(Str.ofString "key", .ref f)]) (EP C σ s.heap Q) X s := by
  obtain ⟨⟨vs⟩, il, rl⟩ := hl.raw S
  simp only at rl
  have el := rl.length
  refine call_function_entry_kw kind_sorted plain_sorted entry_sorted (ksk_s1 _ _) ?_
  unfold Builtin.«sorted»
  refine wpAny_bind (m := checkCount "sorted" 1 1 _) (wpAny_pure ?_)
  refine wpAny_bind (collect_list il ?_ (by rw [sizeLine_eq]; (first | lia | omega)))
  refine wpAny_bind (wpAny_newList ?_ (by rw [sizeLine_eq]; (first | lia | omega)))
  have hsz : ((s.heap.push (seqObj "list" #[] 0)).update s.heap.objs.size (Obj.mapSeq (· ++ vs.toArray))).objs.size = s.heap.objs.size + 1 := by
    rw [Heap.size_update, size_push']
  generalize hH : ((s.heap.push (seqObj "list" #[] 0)).update s.heap.objs.size (Obj.mapSeq (· ++ vs.toArray))).push (seqObj "list" vs.toArray 0) = H
  have hHs : H.objs.size = s.heap.objs.size + 2 := by rw [← hH, size_push', hsz]
  have hoL : H.get? (s.heap.objs.size + 1) = some (seqObj "list" vs.toArray 0) := by
    rw [← hH, ← hsz]; exact Heap.get?_push_size _ rfl
  have keep : ∀ b o, s.heap.get? b = some o → H.get? b = some o := fun b o q => by
    have hlt : b < s.heap.objs.size := Heap.lt_size q
    rw [← hH, Heap.get?_push_ne _ _ _ (by rw [hsz]; exact Nat.ne_of_lt (Nat.lt_succ_of_lt hlt)), Heap.get?_update_ne _ _ _ _ (Nat.ne_of_lt hlt), Heap.get?_push_ne _ _ _ (Nat.ne_of_lt hlt)]
    exact q
  have old : ∀ b o, s.heap.get? b = some o → b ≠ s.heap.objs.size + 1 := fun b o e => Nat.ne_of_lt (Nat.lt_succ_of_lt (Heap.lt_size e))
  show wpAny _ _ _ _ _ { s with heap := H }
  rw [hsz]
  generalize hLL : s.heap.objs.size + 1 = LL at *
  have hLsz : s.heap.objs.size ≤ LL := by (first | lia | omega)
  refine wpAny_bind (wpAny_holding (wpAny_call_entry_kw slot_list_sort ⟨_, hoL, rfl⟩ entry_list_sort ?_ (ksk_l1 _ _)))
  rw [ksk_t1]
  unfold ksk_tree
  refine wpAny_bind (listItems_at hoL rfl ?_)
  refine wpAny_bind (listUpdate_at hoL rfl ?_ (by rw [List.size_toArray, sizeLine_eq]; (first | lia | omega)) (Nat.zero_le _))
  obtain ⟨e1, ho1⟩ : ∃ e1, (H.update LL (Obj.mapSeq fun _ => (#[] : Array Value))).get? LL = some (seqObj "list" #[] e1) := ⟨_, get?_update_seq hoL fun _ => #[]⟩
  refine wpAny_bind (seqEpoch_at ho1 rfl ?_)
  refine wpAny_bind (wpAny_newTuple ?_ (by show vs.length ≤ _; rw [sizeLine_eq]; (first | lia | omega)))
  refine wpAny_bind (wpAny_newList ?_ (Nat.zero_le _))
  have hks : ((H.update LL (Obj.mapSeq fun _ => (#[] : Array Value))).push (seqObj "tuple" vs.toArray 0)).objs.size = s.heap.objs.size + 3 := by rw [size_push', Heap.size_update, hHs]
  generalize hG : ((H.update LL (Obj.mapSeq fun _ => (#[] : Array Value))).push (seqObj "tuple" vs.toArray 0)).push (seqObj "list" #[] 0) = G
  have hGL : G.get? LL = some (seqObj "list" #[] e1) := by rw [← hG]; exact Heap.get?_push_of_some _ (Heap.get?_push_of_some _ ho1)
  have hGk : G.get? (s.heap.objs.size + 3) = some (seqObj "list" #[] 0) := by rw [← hG, ← hks]; exact Heap.get?_push_size _ rfl
  have hGo : ∀ b o, s.heap.get? b = some o → G.get? b = some o := fun b o e => by
    rw [← hG]; exact Heap.get?_push_of_some _ (Heap.get?_push_of_some _ ((Heap.get?_update_other _ _ (Ne.symm (old b o e))).trans (keep b o e)))
  refine wpAny_holding ?_
  show wpAny _ _ (ksk_rest LL (.ref f) false vs.toArray e1 (.ref _)) _ _ { s with heap := G }
  rw [hks]
  generalize hkS : s.heap.objs.size + 3 = kS at *
  have hKs : s.heap.objs.size ≤ kS := by (first | lia | omega)
  have hKL : kS ≠ LL := by (first | lia | omega)
  have hσL : σ LL = none := S.fresh' hLsz
  have hσk : σ kS = none := S.fresh' hKs
  have oldk : ∀ b o, s.heap.get? b = some o → b ≠ kS := fun b o e z => by have := Heap.lt_size e; rw [z] at this; exact absurd this (Nat.not_lt.mpr hKs)
  have frk : C.h₀.get? kS = none := by
    cases z : C.h₀.get? kS with
    | none => rfl
    | some o => exact absurd rfl (oldk _ _ (S.base _ _ z))
  have frL : C.h₀.get? LL = none := by
    cases z : C.h₀.get? LL with
    | none => rfl
    | some o => exact absurd rfl (old _ _ (S.base _ _ z))
  unfold ksk_rest
  refine wpAny_bind (wpAny_rule ?_)
  first
    | rw [List.forIn_toArray]
    | (rw [← Array.forIn_toList]; simp only [List.toList_toArray])
    | rw [← Array.forIn_toList]
  refine wpAny_bind (ksk_fold (fun i s' => ∃ kA e, St C σ s' ∧ Evo σ s.heap σ s'.heap ∧ s'.heap.get? LL = some (seqObj "list" #[] e1) ∧ s'.heap.get? kS = some (seqObj "list" kA e) ∧ IntsAre kA.toList ((xs.take i).map key)) vs 0 { s with heap := G }
    ⟨#[], 0, S.ext (t := s.toks) hGo, .ext hGo, hGL, hGk, by simpa using IntsAre.nil⟩ ?step ?done)
  case step =>
    rintro j x s' hx ⟨kA, e, S', E', hL', hk', hI⟩
    simp only [Nat.zero_add] at hI ⊢
    obtain ⟨y, hy, ry⟩ := rl.get' hx
    have hj : j < xs.length := (List.getElem?_eq_some_iff.mp hy).1
    have hzk : kA.size ≤ 64 := by
      have h1 := hI.length
      simp only [Array.length_toList, List.length_map, List.length_take] at h1
      (first | lia | omega)
    refine wpAny_bind (wpAny_attempt (wpAny_mono (turn y (List.mem_of_getElem? hy) s' x S' (F.evo E') (hL.evo E' hfn) (ry.mono E'.tup)) (fun k s'' he => ?_) fun _ _ hF => hF.elim))
    obtain ⟨kx, σ3, ⟨rfl, rfl⟩, rk, S2, E2⟩ := he
    cases rk
    rename_i tk
    have hL2 := (E2.keep _ _ hL' hσL).exact fun _ _ z => (by cases z)
    have hk2 := (E2.keep _ _ hk' hσk).exact fun _ _ z => (by cases z)
    obtain ⟨c2, hc2⟩ : ∃ c2, (s''.heap.update kS (Obj.mapSeq (·.push (Value.int (key y) tk)))).get? kS = some (seqObj "list" (kA.push (.int (key y) tk)) c2) := ⟨_, get?_update_seq hk2 (·.push (.int (key y) tk))⟩
    try dsimp only
    refine wpAny_bind (listUpdate_at hk2 rfl ?_ (by rw [sizeLine_eq]; (first | lia | omega)) (Nat.le_trans (Nat.le_of_eq (Array.size_push ..)) (by rw [sizeLine_eq]; (first | lia | omega))))
    have kp : ∀ b o, ¬ b = kS → s''.heap.get? b = some o → (s''.heap.update kS (Obj.mapSeq (·.push (Value.int (key y) tk)))).get? b = some o := fun b o z w => (Heap.get?_update_other _ _ (Ne.symm z)).trans w
    have nt : ∀ b o, b = kS → s''.heap.get? b = some o → ¬ Imm o := fun b o z w => by subst z; rw [hk2] at w; cases w; exact Imm.not (by simp) (by simp) (by simp)
    refine wpAny_pure ⟨rfl, kA.push (.int (key y) tk), c2, S2.ow (t := s''.toks) (ow := fun b => b = kS) kp nt (fun b z => z ▸ hσk) (fun b z => z ▸ frk), (E'.trans E2).ow (ow := fun b => b = kS) kp (fun b z => ?_), kp _ _ (Ne.symm hKL) hL2, hc2, ?_⟩
    · subst z; exact get?_fresh' hKs
    · have ea : (kA.push (Value.int (key y) tk)).toList = kA.toList ++ [Value.int (key y) tk] := by simp
      rw [ea, List.take_add_one, hy]
      simpa using ksk_snoc hI
  case done =>
    rintro s' ⟨kA, e, S', E', hL', hk', hI⟩
    have hI' : IntsAre kA.toList (xs.map key) := by
      rwa [List.take_of_length_le (by (first | lia | omega))] at hI
    have hkl : kA.toList.length = vs.length := by rw [hI'.length, List.length_map, el]
    have hks2 : kA.size = vs.length := by simpa using hkl
    try dsimp only
    refine wpAny_bind (listItems_at hk' rfl ?_)
    have fin : ∀ (p : List Nat) (st : SortSt), (arrOf st).map (·.2) = (p.map fun i => vs.getD i Value.none).toArray → failedOf st = none → p.Perm (List.range vs.length) → p.Pairwise (slt fun i j => decide ((xs.map key).getD i 0 < (xs.map key).getD j 0)) →
        wpAny C.M A.in1.in1 (ksk_tail LL false e1 (.ref kS) st) (fun fin s' => ∃ v, fin = .done (.ret v) ∧ (fun _ s' => wpAny C.M A.in1 (pure (PySem.Fin.done (.ret (.ref LL)))) (fun fin s' => ∃ v, fin = .done (.ret v) ∧ EP C σ s.heap Q v s') X s') v s') X s' := by
      intro p st hout hf hp hs
      have hlen : p.length = vs.length := by simpa using hp.length_eq
      unfold ksk_tail
      try dsimp only
      refine wpAny_bind (listUpdate_at hk' rfl ?_ (by rw [sizeLine_eq]; (first | lia | omega)) (Nat.zero_le _))
      refine wpAny_bind (wpAny_letGo ?_)
      have hL2 : (s'.heap.update kS (Obj.mapSeq fun _ => (#[] : Array Value))).get? LL = some (seqObj "list" #[] e1) := (Heap.get?_update_other _ _ hKL).trans hL'
      refine wpAny_bind (seqEpoch_at hL2 rfl ?_)
      rw [hout, hf]
      simp only [Bool.false_eq_true, if_false, bne_self_eq_false]
      refine wpAny_bind (listUpdate_at hL2 rfl ?_ (Nat.zero_le _) (by rw [List.size_toArray, List.length_map, hlen, sizeLine_eq]; (first | lia | omega)))
      refine wpAny_pure ⟨_, rfl, wpAny_pure ⟨_, rfl, ?_⟩⟩
      have kp : ∀ b o, ¬ (b = kS ∨ b = LL) → s'.heap.get? b = some o → ((s'.heap.update kS (Obj.mapSeq fun _ => (#[] : Array Value))).update LL (Obj.mapSeq fun _ => (p.map fun i => vs.getD i Value.none).toArray)).get? b = some o := fun b o z w =>
        (Heap.get?_update_other _ _ (fun y => z (.inr y.symm))).trans ((Heap.get?_update_other _ _ (fun y => z (.inl y.symm))).trans w)
      have nt : ∀ b o, (b = kS ∨ b = LL) → s'.heap.get? b = some o → ¬ Imm o := fun b o z w => by
        rcases z with rfl | rfl
        · rw [hk'] at w; cases w; exact Imm.not (by simp) (by simp) (by simp)
        · rw [hL'] at w; cases w; exact Imm.not (by simp) (by simp) (by simp)
      have S3 : St C σ { s' with heap := (s'.heap.update kS (Obj.mapSeq fun _ => (#[] : Array Value))).update LL (Obj.mapSeq fun _ => (p.map fun i => vs.getD i Value.none).toArray), toks := s'.toks } :=
        S'.ow (ow := fun b => b = kS ∨ b = LL) kp nt (fun b z => by rcases z with rfl | rfl <;> assumption) (fun b z => by rcases z with rfl | rfl <;> assumption)
      have E3 : Evo σ s.heap σ ((s'.heap.update kS (Obj.mapSeq fun _ => (#[] : Array Value))).update LL (Obj.mapSeq fun _ => (p.map fun i => vs.getD i Value.none).toArray)) := E'.ow (ow := fun b => b = kS ∨ b = LL) kp (fun b z => by
        rcases z with rfl | rfl
        · exact get?_fresh' hKs
        · exact get?_fresh' hLsz)
      have bound : ∀ i ∈ p, i < vs.length := fun i hi => by simpa using hp.mem_iff.mp hi
      have rr : ∀ u : List Nat, (∀ i ∈ u, i < vs.length) → VRs s.heap (u.map fun i => vs.getD i Value.none) (u.map fun i => xs.getD i .none) := fun u => by
        induction u with
        | nil => exact fun _ => .nil
        | cons i u ih =>
          intro hb
          have hi : i < vs.length := hb i (.head _)
          obtain ⟨w, hw, rw'⟩ := rl.get (i := i) (y := xs.getD i .none) (by have hi' : i < xs.length := by (first | lia | omega)
                                                                            simp [hi'])
          have : w = vs.getD i Value.none := by simp [hw, List.getD]
          exact .cons (show VR s.heap (vs.getD i Value.none) (xs.getD i .none) from this ▸ rw') (ih fun j hj => hb j (.tail _ hj))
      obtain ⟨S4, E4⟩ := S3.adopt (a := LL) (o := .list (p.map fun i => xs.getD i .none)) (σ0 := σ) (h0 := s.heap) ⟨_, ⟨_, get?_update_seq hL2 fun _ => _⟩, by simpa using (rr p bound).mono E3.tup⟩ (Nat.le_trans S.size hLsz) E3 (get?_fresh' hLsz)
      refine ⟨.ref LL, _, h LL p hσL (el ▸ hp) (hs.imp_of_mem fun {i j} hi hj z => ?_), .ref _, S4, E4⟩
      have g : ∀ i, i < vs.length → (xs.map key).getD i 0 = key (xs.getD i .none) := fun i hi => by
        have hi' : i < xs.length := by (first | lia | omega)
        simp [hi']
      unfold slt at z ⊢
      dsimp only at z ⊢
      rw [g i (bound i hi), g j (bound j hj)] at z
      exact z
    unfold ksk_end
    try dsimp only
    simp only [Bool.false_eq_true, if_false]
    by_cases h2 : vs.toArray.size < 2
    · rw [if_pos h2, if_pos h2]
      rw [List.size_toArray] at h2
      refine wpAny_bind (wpAny_pure ?_)
      rw [StateT.run_pure]
      refine wpAny_bind (wpAny_pure ?_)
      refine fin (List.range vs.length) _ ?_ rfl (List.Perm.refl _) ?_
      · show (kA.zip vs.toArray).map (·.2) = _
        apply Array.toList_inj.mp
        refine List.ext_getElem (by simp [hks2]) fun i h1 h2 => ?_
        simp at h2
        simp [h2]
      · match vs, h2 with
        | [], _ => exact .nil
        | [v], _ => exact .cons (fun _ q => (nomatch q)) .nil
        | _ :: _ :: _, h2 => simp at h2; (first | lia | omega)
    · rw [if_neg h2, if_neg h2]
      rw [List.size_toArray] at h2
      rw [ksk_kind hI' (by (first | lia | omega))]
      refine wpAny_bind (wpAny_pure ?_)
      have run : (kas_sort vs.length).kasWp (kas_ask C.prog C.w A.in1.in1 oneType' kA.toList) (fun p s2 => s2 = s' ∧ p.toList.Perm (List.range vs.length) ∧ p.toList.Pairwise (slt fun i j => decide ((xs.map key).getD i 0 < (xs.map key).getD j 0))) s' := by
        refine sort_ok (intSWO fun i => (xs.map key).getD i 0) (fun i j C hi hj hC => ?_) (by (first | lia | omega)) fun P' hp hs => ⟨rfl, hp, hs⟩
        obtain ⟨t1, z1⟩ := ints_get hI' (i := i) (by (first | lia | omega))
        obtain ⟨t2, z2⟩ := ints_get hI' (i := j) (by (first | lia | omega))
        unfold kas_ask
        rw [z1, z2]
        exact kat_lt_int hC
      refine wpAny_bind (wpAny_mono (kat_run (ks := kA.toList) (vs := vs) (Q := fun st' s2 => s2 = s' ∧ ∃ p : Array Nat, arrOf st' = p.map (kas_item (kA.toList.toArray.zip vs.toArray)) ∧ failedOf st' = none ∧ p.toList.Perm (List.range vs.length) ∧ p.toList.Pairwise (slt fun i j => decide ((xs.map key).getD i 0 < (xs.map key).getD j 0)))
        hkl (by (first | lia | omega)) (by (first | lia | omega)) (fun p st' s2 a1 a2 a3 a4 => ⟨a4.1, p, a2, a3, a4.2⟩) run) ?_ fun _ _ e => e)
      rintro ⟨⟨⟩, st'⟩ s2 ⟨rfl, p, har, hf, hp, hs⟩
      exact fin p.toList st' (kat_snds hkl har) hf hp hs
end
end Mine

set_option autoImplicit false
set_option linter.unusedVariables false
set_option maxRecDepth 100000
set_option maxHeartbeats 4000000
namespace Mine
open PySem PySem.W PySem.SeqAt PyProof.Rows PySem.Calls
section
variable {C : Cx} {A : Around} {ρ : Rho} {σ : Store} {X : XP} {s : Shared}
theorem Ags.one {env : Env} {e : Expr} {pos : Pos} {R : V → Store → Prop} (h : Ev C A env e ρ σ R X) (he : starEach [e] env = (false, eval e env) :: starEach [] env) : Ags C A env pos [e] ρ σ (fun vs σ1 => ∃ v, vs = [v] ∧ R v σ1) X :=
  Ags.cons (h.mono' fun v σ1 p => Ags.nil ⟨v, rfl, p⟩) he
/-- sorted(e, key=lambda pn: body) -/
theorem Ev.sortLam {sc lsc : Scope} {L c P : Addr} {cells : List (Str × Addr)} {q0 pn : Str} {fn : Option Addr} {fr : Option Addr} {e body : Expr} {params : Arguments} {lpos kp pos p1 : Pos} {ρc : Rho} {Q : V → Store → Prop}
    (Cd : CodeHd C.h₀ c P) (hB : BMod C) (hroom : A.depth < recursionLimit)
    (hs : sc.names.lookup (Str.ofString "sorted") = some .globalImplicit) (hsk : nsIn C.K mainGlobals (Str.ofString "sorted") = some none) (cap : Capt ρ lsc.names ρc)
    (hdef : defaultsOf params (mkE sc L cells q0 fn (.ref c) fr) = ([], []))
    (hbind : ∀ v cl pm cdv ctv, bindArgs (kla_fn "<lambda>" (q0 ++ "<lambda>") params body lsc cl pm cdv ctv) ⟨[v], []⟩ = pure [(pn, v)]) (hco : lsc.isCoroutine = false) (hgen : lsc.isGenerator = false) (hk : lsc.kind = .function) (hpn : lsc.names.lookup pn = some .local)
    (hok : lamOk lsc = true) (hfree : (lsc.names.all fun p => p.2 != .free || (cells.lookup p.1).isSome) = true)
    (hev : eval (.Call (.Name (Str.ofString "sorted") p1) [e] [⟨some (Str.ofString "key"), .Lambda params body lsc lpos, kp⟩] pos) (mkE sc L cells q0 fn (.ref c) fr) =
      (do callWith pos (← eval (.Name (Str.ofString "sorted") p1) (mkE sc L cells q0 fn (.ref c) fr)) [] (backTo pos (starEach [e] (mkE sc L cells q0 fn (.ref c) fr))) (backToKw pos (keywordEach [⟨some (Str.ofString "key"), .Lambda params body lsc lpos, kp⟩] (mkE sc L cells q0 fn (.ref c) fr)))))
    (hst : starEach [e] (mkE sc L cells q0 fn (.ref c) fr) = (false, eval e (mkE sc L cells q0 fn (.ref c) fr)) :: starEach [] (mkE sc L cells q0 fn (.ref c) fr))
    (h : Ev C A (mkE sc L cells q0 fn (.ref c) fr) e ρ σ (fun v σ1 => ∃ (l : Addr) (xs : List V) (key : V → Int), v = .ref l ∧ LstAt C σ1 l xs ∧ xs.length < 64 ∧ σ1 P = some (.tab lpos (q0 ++ "<lambda>")) ∧
      (∀ x ∈ xs, ∀ L' f cdv A', A'.handled = A.handled → A'.units ≤ A.units + 6 → Ev C A' (mkE lsc L' (clOf cells lsc.names []) (q0 ++ "<lambda>" ++ ".<locals>.") (some f) cdv (some L')) body ((pn, x) :: ρc) σ1 (fun k σ3 => σ3 = σ1 ∧ k = .int (key x)) (fun _ _ => False)) ∧
      ∀ (a : Addr) (p : List Nat), σ1 a = none → p.Perm (List.range xs.length) → p.Pairwise (slt fun i j => decide (key (xs.getD i .none) < key (xs.getD j .none))) → Q (.ref a) (σ1.upd a (.list (p.map fun i => xs.getD i .none)))) X) :
    Ev C A (mkE sc L cells q0 fn (.ref c) fr) (.Call (.Name (Str.ofString "sorted") p1) [e] [⟨some (Str.ofString "key"), .Lambda params body lsc lpos, kp⟩] pos) ρ σ Q X := by
  intro s S F
  rw [hev]
  refine wpAny_bind (wpAny_mono (Ev.nblt (Q := fun x σ1 => x = .blt "sorted" ∧ σ1 = σ) hs hsk PyProof.Rows.Boot.sorted (.blt _) ⟨rfl, rfl⟩ (by decide) rfl s S F) ?_ fun _ _ z => z)
  rintro v0 s0 ⟨x0, σ0, ⟨rfl, rfl⟩, r0, S0, e0⟩
  cases r0
  refine callWith_of (P := fun h => ∀ b o, C.h₀.get? b = some o → h.get? b = some o) (by rw [hst]; rfl) Kp.blt ?_
  refine evalArgs_kw2 rfl ?_ hst
  refine wpAny_mono (Ags.one (pos := pos) h hst s0 S0 (F.evo e0)) ?_ fun _ _ z => z
  rintro vs s1 ⟨ys, σ1, ⟨v, rfl, l, xs, key, rfl, hl, h64, hP, hturn, hq⟩, r1, S1, e1⟩
  refine kwAll_cons (kla_eval hdef ?_)
  refine lam_make (c := c) S1 rfl rfl (closureFor_mine (env := mkE sc L cells q0 fn (.ref c) fr) hfree) Cd hP hB fun f s2 S2 e2 hfn hL => ?_
  refine kwAll_nil ⟨S2.base, ?_⟩
  cases r1 with
  | cons ra rb =>
  cases ra; cases rb
  have F2 := (F.evo e0).evo (e1.trans e2)
  show wpAny C.M A (PySem.call (Value.builtin "sorted") [Value.ref l] [(Str.ofString "key", Value.ref f)]) _ _ _
  refine wpAny_mono (sorted_key (X := X) S2 F2 hl h64 hfn hL (fun x hx s3 v S3 F3 hL3 rv => ?_) hq) (fun _ _ z => ((z.after e2).after e1).after e0) fun _ _ z => z
  exact lam_call (env := mkE sc L cells q0 fn (.ref c) fr) S3 F3 hL3 rv hroom (fun pm cdv ctv => hbind v _ pm cdv ctv) hco hgen hk hpn hok hfree cap fun L' cdv A' a1 a2 => hturn x hx L' f cdv A' a1 (Nat.le_trans a2 (by show A.units + 1 + 1 + 3 ≤ _; (first | lia | omega)))
end
end Mine

set_option autoImplicit false
set_option linter.unusedVariables false
set_option maxRecDepth 100000
namespace Mine
open PySem PySem.W PySem.SeqAt PyProof.Rows
section
variable {C : Cx} {A : Around} {env : Env} {ρ : Rho} {σ : Store} {X : XP} {s : Shared}
theorem Ev.nfree {sc : Scope} {L : Addr} {cells : List (Str × Addr)} {q : Str} {fn : Option Addr} {cd : Value} {fr : Option Addr} {x : Str} {pos : Pos} {v : V} {Q : V → Store → Prop} (hk : sc.names.lookup x = some .free) (hv : ρ.get x = some v) (h : Q v σ) (hc : (cells.lookup x).isSome = true) (hd : (x == ("__debug__" : Str)) = false) (hn : (x == ("__classdict__" : Str)) = false) :
    Ev C A (mkE sc L cells q fn cd fr) (.Name x pos) ρ σ Q X := by
  obtain ⟨c, hc⟩ := Option.isSome_iff_exists.mp hc
  exact Ev.free hk hc hv h hd hn
theorem Br.both {b : Bool} {p q : Prop} (h1 : p) (h2 : q) : if b = true then p else q := by split <;> assumption
theorem Exs.cut {st : Stmt} {ss : List Stmt} {Q : FV → Rho → Store → Prop} (P : Rho → Store → Prop) (h1 : Ex C A env st ρ σ (fun g ρ' σ' => g = .next ∧ P ρ' σ') X) (h2 : ∀ ρ' σ', P ρ' σ' → Exs C A env ss ρ' σ' Q X) : Exs C A env (st :: ss) ρ σ Q X :=
  Exs.cons (h1.mono fun g ρ' σ' ⟨e, p⟩ => by subst e; exact h2 ρ' σ' p)
/- slices: of a list, of a text -/
def SliceWP (C : Cx) (o : V) (a b : Option Int) (σ3 : Store) (Q : V → Store → Prop) : Prop :=
  (∃ l xs, o = .ref l ∧ LstAt C σ3 l xs ∧ xs.length ≤ sizeLine ∧ ∀ c, σ3 c = Option.none → Q (.ref c) (σ3.upd c (.list (pySlice xs a b)))) ∨
  (∃ x, o = .str x ∧ x.length ≤ sizeLine ∧ Q (.str (Txt.slice x a b)) σ3)
theorem SliceWP.list {l : Addr} {xs : List V} {a b : Option Int} {Q : V → Store → Prop} (hl : LstAt C σ l xs) (hz : xs.length ≤ sizeLine) (h : ∀ c, σ c = Option.none → Q (.ref c) (σ.upd c (.list (pySlice xs a b)))) : SliceWP C (.ref l) a b σ Q :=
  .inl ⟨l, xs, rfl, hl, hz, h⟩
theorem SliceWP.str {x : Str} {a b : Option Int} {Q : V → Store → Prop} (hz : x.length ≤ sizeLine) (h : Q (.str (Txt.slice x a b)) σ) : SliceWP C (.str x) a b σ Q := .inr ⟨x, rfl, hz, h⟩
theorem IsPart.opt {v : Value} {k : Option Int} (p : IsPart v k) : ∃ l : Option (Int × Tok), v = partValue l ∧ l.map (·.1) = k := by
  cases p with
  | none => exact ⟨none, rfl, rfl⟩
  | int i t => exact ⟨some (i, t), rfl, rfl⟩
theorem Ev.slice {value : Expr} {lo hi : Option Expr} {p pos : Pos} {Q : V → Store → Prop}
    (h : Ev C A env value ρ σ (fun o σ1 => Prt C A env lo ρ σ1 (fun a σ2 => Prt C A env hi ρ σ2 (fun b σ3 => SliceWP C o a b σ3 Q) X) X) X) : Ev C A env (.Subscript value (.Slice lo hi Option.none p) pos) ρ σ Q X := by
  intro s S F
  rw [eval_Subscript]
  refine wpAny_bind (wpAny_mono (h s S F) ?_ fun _ _ z => z)
  rintro o s1 ⟨x, σ1, h1, r1, S1, e1⟩
  refine wpAny_bind (wpAny_holding ?_)
  rw [arm_eval_Slice]
  refine wpAny_bind (wpAny_mono (h1.run S1 (F.evo e1)) ?_ fun _ _ z => z)
  rintro vl s2 ⟨a, σ2, h2, p2, S2, e2⟩
  refine wpAny_bind (wpAny_holding (wpAny_mono (h2.run S2 ((F.evo e1).evo e2)) ?_ fun _ _ z => z))
  rintro vu s3 ⟨b, σ3, (⟨l, xs, rfl, hl, hz, q⟩ | ⟨x, rfl, hz, q⟩), p3, S3, e3⟩
  · cases r1
    refine wpAny_bind (wpAny_holding (wpAny_pure (wpAny_newObj_type ?_)))
    have S4 : St C σ3 { s3 with heap := s3.heap.push { cls := .type "slice", data := .fields #[vl, vu, .none] } } := S3.push
    obtain ⟨items, il, rl⟩ := hl.raw S4
    have e := rl.length
    simp only [Array.length_toList] at e
    refine wpAny_bind (wpAny_standAt (getitem_mine (.list il) (wpAny_getItem_list_slice (lo := a) (hi := b) (st := none) il ⟨_, Heap.get?_push_size _ rfl, rfl, rfl⟩ p2 p3 .none (by simp) ?_ (by rw [e]; exact hz))))
    obtain ⟨S5, e5⟩ := S4.new (t := s3.toks) (rep_list_push (C := C) (vs := (slicePick items a b none).toList) (xs := pySlice xs a b) (by rw [slicePick_list]; unfold pySlice; simp only [Array.length_toList, e]; exact rl.pick _))
    refine ⟨.ref _, _, q _ S4.fresh, .ref _, by simpa using S5, ?_⟩
    have := (((e1.trans e2).trans e3).trans .push).trans e5
    simpa using this
  · cases r1
    refine wpAny_bind (wpAny_holding (wpAny_pure (wpAny_newObj_type ?_)))
    obtain ⟨l, rfl, rfl⟩ := IsPart.opt p2
    obtain ⟨u, rfl, rfl⟩ := IsPart.opt p3
    refine wpAny_bind (wpAny_standAt (getitem_mine .str (wpAny_getItem_str_slice (l := l) (u := u) (st := none) ⟨_, Heap.get?_push_size _ rfl, rfl, rfl⟩ rfl (post_val_or_str ⟨Nat.le_trans (Txt.slice_le x _ _) hz, fun t' k => ?_⟩))))
    exact ⟨_, σ3, q, .str _ _, (S3.push).toks _, ((e1.trans e2).trans e3).trans .push⟩

end

theorem slice_cps (x : Str) (l u : Option Int) (a n : Nat) (h : a + n ≤ x.length) (e : Builtin.Str.strSliceIndices l u 1 x.length = (List.range n).map fun i => a + i) : (Txt.slice x l u).cps.toList = (x.cps.toList.drop a).take n := by
  have hx : x.cps.toList.length = x.length := by simp [Str.length]
  unfold Txt.slice
  rw [e]
  split
  · rename_i z
    simp only [List.length_map, List.length_range, beq_self_eq_true, Bool.true_and, beq_iff_eq] at z
    have : a = 0 := by (first | lia | omega)
    subst this
    rw [List.drop_zero, List.take_of_length_le (by (first | lia | omega))]
  · have e2 : (List.filterMap (fun i => x.cps[i]?) ((List.range n).map fun i => a + i)) = ((List.range n).map fun i => a + i).filterMap (x.cps.toList[·]?) := by simp
    show (List.filterMap (fun i => x.cps[i]?) ((List.range n).map fun i => a + i)).toArray.toList = _
    rw [e2, pick_range _ a n (by (first | lia | omega))]
theorem slice_upto (x : Str) (k : Nat) (hk : k ≤ x.length) : (Txt.slice x none (some (k : Int))).cps.toList = x.cps.toList.take k := by
  have e : Builtin.Str.strSliceIndices none (some (k : Int)) 1 x.length = (List.range k).map fun i => 0 + i := by
    unfold Builtin.Str.strSliceIndices
    have h1 : ¬ ((k : Int) < 0) := by (first | lia | omega)
    have h2 : max 0 (min (k : Int) (x.length : Int)) = ((k : Nat) : Int) := by (first | lia | omega)
    simp only [h1, if_false, show (1 : Int) > 0 by decide, if_true, h2]
    have := sliceRange_one 0 k
    simpa using this
  rw [slice_cps x none (some (k : Int)) 0 k (by (first | lia | omega)) e, List.drop_zero]
theorem cps_append (x y : Str) : (x ++ y).cps.toList = x.cps.toList ++ y.cps.toList := by
  show (x.cps ++ y.cps).toList = _
  simp
end Mine

set_option autoImplicit false
set_option linter.unusedVariables false
namespace Mine
open PySem PySem.W PySem.SeqAt PyProof.Rows

theorem top_exists (h : Heap) : ∀ n, (∀ b o, h.get? b = some o → b < n) → ∃ m, (∀ b o, h.get? b = some o → b < m) ∧ ∀ k, m = k + 1 → ∃ o, h.get? k = some o
  | 0, hn => ⟨0, hn, fun k e => by cases e⟩
  | n + 1, hn => by
    cases q : h.get? n with
    | some o => exact ⟨n + 1, hn, fun k e => by cases e; exact ⟨o, q⟩⟩
    | none =>
      refine top_exists h n fun b o e => ?_
      have := hn b o e
      rcases Nat.lt_or_eq_of_le (Nat.le_of_lt_succ this) with z | z
      · exact z
      · rw [z, q] at e; cases e

theorem ints_VRs {h : Heap} : ∀ {vs : List Value} {ns : List Int}, IntsAre vs ns → VRs h vs (ns.map V.int)
  | [], ns, hI => by
    cases ns with
    | nil => exact .nil
    | cons _ _ => have := hI.length; simp at this
  | v :: vs, ns, hI => by
    cases ns with
    | nil => have := hI.length; simp at this
    | cons n ns =>
      cases hI with
      | cons _ h2 => exact .cons (.int _ _) (ints_VRs (by assumption))

/-- the same with one table of codes laid aside -/
theorem glueT {prog : Program} {w : World} {s₁ : Shared} {K : Frag} {p : Program} {loose : List Str} {mean : ExcName → Option Value} {mg mb : Str → Option Value} {l fa c P : Addr} {pos : Pos} {q : Str} {vs : List Value} {ns : List Int} (KX : K.In s₁.heap) (T : Top p loose mean mg mb s₁.heap)
    (hT : CodeHd s₁.heap c P) (hP : s₁.heap.get? P = some (tabObj #[])) (hK : noTabs K = true) (hPs : P ≠ sysModules) (gens : s₁.gens = #[]) (hl : s₁.heap.IsList l vs.toArray) (hI : IntsAre vs ns)
    (h : ∀ C : Cx, C.prog = prog → C.w = w → C.K = K → SysOk C → BaseL C l (ns.map V.int) → CodeHd C.h₀ c P → (∃ bm ob, C.mg "__builtins__" = some (.ref bm) ∧ bm ≠ builtinsNs ∧ C.h₀.get? bm = some ob ∧ ob.cls = .type "module" ∧ ob.dict = some builtinsNs ∧ ob.data = .plain) →
      CallWP C callerA (.ref fa) [.ref l] (Store.upd (fun _ => none) P (.tab pos q)) (fun v σ' => v = .bool true ∧ ∃ o, σ' P = some o ∧ ∃ pos' q', o = .tab pos' q') (fun _ _ => False)) :
    wpAny (model prog w) callerA (call (.ref fa) [.ref l]) (fun v s' => v = .bool true ∧ OldK s₁.heap s'.heap ∧ s'.os = s₁.os ∧ AllBare s'.gens) (fun _ _ => False) s₁ := by
  have hTs : TabsAt [(c, P)] s₁.heap := fun z hz => by
    rcases List.mem_cons.mp hz with rfl | hz
    · exact ⟨hT, hP⟩
    · cases hz
  have hgo := ghost_top hTs T
  obtain ⟨n, hn1, hn2⟩ := top_exists (ghostOf s₁.heap [(c, P)]) (ghostOf s₁.heap [(c, P)]).objs.size fun b o e => Heap.lt_size e
  have h0 : sysModules < n := by
    obtain ⟨o, es, ep, ho, _⟩ := hgo.g
    have := hn1 _ _ ho
    exact Nat.lt_trans (by decide) this
  have hPn : (ghostOf s₁.heap [(c, P)]).get? P = none := hideAll_none _ (by simp)
  have := h ⟨prog, w, ghostOf s₁.heap [(c, P)], s₁.gens, s₁.os, n, hn1, hn2, K, ghost_K hTs KX hK, mg, mb, hgo.g, hgo.b, hgo.builtins, hgo.nolimit, [P], False⟩ rfl rfl rfl ⟨h0, (fun z => by
      rcases List.mem_cons.mp z with z | z
      · exact hPs z.symm
      · cases z), id⟩ ⟨vs.toArray, ghost_list hTs hl, by simpa using ints_VRs hI⟩ (ghost_code hTs).1 hgo.bmain s₁ [.ref l]
    ⟨fun _ _ e => of_hideAll _ e, fun a o e => ?_, fun a o e => ?_, rfl, rfl⟩ (.cons (.ref _) .nil)
  · refine wpAny_mono this ?_ fun _ _ z => z
    rintro v s' ⟨x, σ', ⟨rfl, o, e1, pos', q', rfl⟩, r, S, e⟩
    cases r
    have keep : ∀ b o, b ≠ P → s₁.heap.get? b = some o → s'.heap.get? b = some o := fun b o hb e => S.base b o (ghost_ne e (by simpa using hb))
    obtain ⟨ps, hps⟩ : ∃ ps, s'.heap.get? P = some (tabObj ps) := by
      rcases S.rep _ _ e1 with z | ⟨_, _, _, _, z, _⟩
      · exact ⟨_, z⟩
      · exact ⟨_, z⟩
    refine ⟨rfl, ⟨fun b o eb => ?_, fun b o eb => ?_⟩, S.os, .of_eq (S.gens.trans gens)⟩
    · by_cases hb : b = P
      · subst hb
        rw [hP] at eb; cases eb
        exact .inr (.inl ⟨(hT.tab hP).isCodeTable, rfl, #[], ps, rfl, by rw [Array.empty_append]; exact hps⟩)
      · exact .inl (keep b o hb eb)
    · by_cases hb : b = P
      · subst hb; exact ⟨_, hps⟩
      · exact ⟨o, keep b o hb eb⟩
  · by_cases z : a = P
    · subst z
      rw [Store.upd_self] at e; cases e
      exact .inl hP
    · rw [Store.upd_ne _ _ z] at e; cases e
  · by_cases z : a = P
    · subst z; exact ⟨hPn, .inr (.inl (by simp))⟩
    · rw [Store.upd_ne _ _ z] at e; cases e
end Mine

set_option autoImplicit false
set_option linter.unusedVariables false
set_option maxRecDepth 100000
namespace Mine
open PySem PySem.W PySem.SeqAt PyProof.Rows

/-- frames that stand -/
def Frs (C : Cx) (σ : Store) (h : Heap) (l : List Env) : Prop := ∀ env ∈ l, env.scope.kind ≠ .module ∧ ∃ L m, env.frame = some L ∧ h.Ns L m ∧ σ L = none ∧ C.n₀ ≤ L
/-- addresses laid aside: frames -/
def Hid (C : Cx) (σ : Store) (h : Heap) (fs : List Addr) : Prop := ∀ b ∈ fs, σ b = none ∧ C.n₀ ≤ b ∧ ∃ m, h.Ns b m
section
variable {C : Cx} {A : Around} {env : Env} {ρ : Rho} {σ : Store} {X : XP} {s : Shared} {l : List Env}

/-- an own exception on its way -/
def XR (C : Cx) (σ : Store) (h : Heap) (l : List Env) (D : Addr) (v : Value) (s' : Shared) : Prop :=
  ∃ σ1 h1 e B t fs, v = .ref e ∧ St C σ1 { s' with heap := h1 } ∧ Evo σ h σ1 h1 ∧ Hid C σ1 h1 fs ∧ (∀ b o, h1.get? b = some o → b ∉ fs → B.get? b = some o) ∧ h1.get? e = none ∧ h1.UpToSlots s'.heap ∧ Heap.FlyingW B l e (.ref D) (.ref t) s'.heap
/-- one that was made here -/
def XM (C : Cx) (env : Env) (σ : Store) (h : Heap) (D : Addr) (v : Value) (s' : Shared) : Prop :=
  ∃ σ1 h1 e vs, v = .ref e ∧ St C σ1 { s' with heap := h1 } ∧ Evo σ h σ1 h1 ∧ Heap.MadeExcOf h1 s'.heap e (.ref D) vs

/-- a call that may raise D -/
def CallR (C : Cx) (A : Around) (l : List Env) (f : Value) (args : List V) (σ : Store) (Q : V → Store → Prop) (D : Addr) : Prop :=
  ∀ s vs, St C σ s → VRs s.heap vs args → Frs C σ s.heap l → wpAny C.M A (call f vs) (EP C σ s.heap Q) (XR C σ s.heap l D) s
/-- a call that looks at the frames -/
def CallF (C : Cx) (A : Around) (l : List Env) (f : Value) (args : List V) (σ : Store) (Q : V → Store → Prop) (X : XP) : Prop :=
  ∀ s vs, St C σ s → VRs s.heap vs args → Frs C σ s.heap l → wpAny C.M A (call f vs) (EP C σ s.heap Q) X s

end
end Mine

set_option autoImplicit false
set_option linter.unusedVariables false
set_option maxRecDepth 100000
namespace Mine
open PySem PySem.W PySem.SeqAt PyProof.Rows PySem.Calls PySem.Builtin PySem.Builtin.ObjectAttr PySem.Builtin.Getset_descriptor
/-- an exception of an own class -/
def ExAt (x D : Addr) (h : Heap) : Prop := ∃ o vs, h.get? x = some o ∧ o.cls = .ref D ∧ o.data = .fields vs
/-- what isinstance asks of the class -/
def excKit (K : Frag) (D : Addr) : Bool :=
  (findIn K (.ref D) "__getattribute__" == some (some (.builtin "BaseException.__getattribute__"))) && (findIn K (.ref D) "__getattr__" == some none) && (findIn K (.ref D) "__class__" == some (some (.builtin "object.__class__"))) &&
  (specialIn K (.builtin "object.__class__") "__get__" == some (some (.builtin "getset_descriptor.__get__"))) && (takesIn K (.builtin "object.__class__") == some true) && (mroIn K D (.type "object") == some true) && (mroIn K D (.type "BaseException") == some true) && (clsIn K D).isSome
section
variable {prog : Program} {w : World} {A : Around} {E : Value → Shared → Prop} {s : Shared} {K : Frag} {x D : Addr}
end
section
variable {C : Cx} {A : Around} {env : Env} {ρ : Rho} {σ : Store} {X : XP} {s : Shared}
end
end Mine

set_option autoImplicit false
set_option linter.unusedVariables false
set_option maxRecDepth 100000
namespace Mine
open PySem PySem.W PySem.SeqAt PyProof.Rows PySem.Calls PySem.Builtin PySem.Builtin.Str
/-- a text's signs -/
def signsV (x : Str) : List V := x.cps.toList.map fun c => V.str ⟨#[c]⟩
section
variable {C : Cx} {A : Around} {env : Env} {ρ : Rho} {σ : Store} {X : XP} {s : Shared}
theorem signs_get {x : Str} {k : Nat} {y : V} (h : (signsV x)[k]? = some y) : ∃ c, x.cps[k]? = some c ∧ y = .str ⟨#[c]⟩ := by
  unfold signsV at h
  rw [List.getElem?_map] at h
  obtain ⟨c, h1, h2⟩ := Option.map_eq_some_iff.mp h
  exact ⟨c, by simpa using h1, h2.symm⟩
theorem signs_none {x : Str} {k : Nat} (h : (signsV x)[k]? = none) : x.cps[k]? = none := by
  unfold signsV at h
  rw [List.getElem?_map] at h
  simpa using h
theorem striter_imm {h : Heap} {it : Addr} {T : String} {x : Str} {t : Tok} {k : Nat} (hT : T = "str_ascii_iterator" ∨ T = "str_iterator") (J : h.IsStrIter it T x t k) {o : Obj} (e : h.get? it = some o) : ¬ Imm o := by
  obtain ⟨o', e', c, d⟩ := J
  rw [e] at e'; cases e'
  rcases hT with rfl | rfl <;> exact Imm.not (by rw [c]; simp) (by rw [c]; simp) (by rw [c]; simp)
theorem Itr.strG {target : Expr} {it : Addr} {x : Str} {t : Tok} {T : String} (hT : T = "str_ascii_iterator" ∨ T = "str_iterator") (hh : A.handled = none) :
    Itr C A target (.ref it) (fun b => b = it) (fun k h => h.IsStrIter it T x t k) (fun _ => True) (signsV x) where
  frame := fun k h h' ⟨o, e, r⟩ _ kp => ⟨o, kp it o rfl e, r⟩
  notTup := fun k h b o' J q z => by subst q; exact striter_imm hT J z
  notD := fun k h b o' ⟨o, e, c, d⟩ q z es n w => by subst q; rw [e] at z; cases z; rw [d] at w; cases w
  there := fun k h b ⟨o, e, _⟩ q => by subst q; exact ⟨o, e⟩
  more := fun k σ s y Q X S hok hJ hx no hQ => by
    obtain ⟨c, hc, rfl⟩ := signs_get hx
    have go : ∀ h', h'.IsStrIter it T x t (k + 1) → Heap.SameBut it s.heap h' → Q (some (.str ⟨#[c]⟩ s.toks)) { s with heap := h', toks := s.toks + 1 } := fun h' J' sb => by
      have kp : ∀ b o, ¬ b = it → s.heap.get? b = some o → h'.get? b = some o := fun b o q e => (sb.2 b q).trans e
      refine hQ _ h' (s.toks + 1) (.str _ _) kp (fun b o' q z => ?_) (fun Q' X' hq => ?_)
      · subst q; exact striter_imm hT J' z
      · obtain ⟨o, e, hc, _⟩ := id J'
        rcases hT with rfl | rfl <;> exact letGo_plain (s := { s with heap := h', toks := s.toks + 1 }) e hc (by decide) (hq h' (s.toks + 1) J' fun _ _ _ e => e)
    rcases hT with rfl | rfl
    · exact wpAny_pyNext_ascii_item hJ hc go
    · exact wpAny_pyNext_wide_item hJ hc go
  self := fun k s Q X hJ hq => by
    rcases hT with rfl | rfl
    · exact wpAny_pyIter_striter_ascii hJ hq
    · exact wpAny_pyIter_striter_wide hJ hq
  done := fun k σ s Q X S hok hJ hx no hQ => by
    rcases hT with rfl | rfl
    · exact wpAny_pyNext_ascii_end hh hJ (signs_none hx) fun h' kp => hQ h' s.toks fun b o q e => kp b o q e
    · exact wpAny_pyNext_wide_end hh hJ (signs_none hx) fun h' kp => hQ h' s.toks fun b o q e => kp b o q e
theorem ItV.str {target : Expr} {x : Str} (hh : A.handled = none) : ItV C A target (.str x) σ (signsV x) (fun _ => True) := by
  refine ⟨trivial, fun s v Q X S r hQ => ?_⟩
  cases r with
  | str _ t =>
    cases ha : x.cps.all (· < 128)
    · exact wpAny_pyIter_wide ha (hQ _ _ _ _ s.toks (Itr.strG (t := t) (.inr rfl) hh) (fun b o e => Heap.get?_push_of_some _ e) (fun b w => w ▸ Nat.le_refl _) ⟨_, Heap.get?_push_size _ rfl, rfl, rfl⟩)
    · exact wpAny_pyIter_ascii ha (hQ _ _ _ _ s.toks (Itr.strG (t := t) (.inl rfl) hh) (fun b o e => Heap.get?_push_of_some _ e) (fun b w => w ▸ Nat.le_refl _) ⟨_, Heap.get?_push_size _ rfl, rfl, rfl⟩)

def inS (x y : Str) : Bool := !(Builtin.Str.occurrences x y 0 x.length 1).isEmpty
theorem CmpWP.inStr {x y : Str} {Q : V → Store → Prop} (h : Q (.bool (inS x y)) σ) : CmpWP C A .In (.str y) (.str x) σ Q X := by
  rintro s _ _ S ⟨⟩ ⟨⟩; exact PyProof.Rows.in_str (EP.pure S h (.bool _))
theorem UnWP.not {x : V} {Q : V → Store → Prop} (h : TruWP C A x σ (fun b σ' => Q (.bool (!b)) σ') X) : UnWP C A .Not x σ Q X := by
  intro s v S r
  refine PyProof.Rows.not_of (wpAny_mono (h s v S r) ?_ fun _ _ z => z)
  rintro b s' ⟨σ', q, S', e'⟩
  exact ⟨_, σ', q, .bool _, S', e'⟩
def isT : Value → Bool
  | .bool b => b
  | _ => false
end
end Mine

set_option autoImplicit false
set_option linter.unusedVariables false
namespace Mine
open PySem PySem.W

/- a ledger: which objects stand in the store, each at its own address -/
structure Led (σ : Store) (l : List (Addr × O)) : Prop where
  nd : (l.map (·.1)).Nodup
  at_ : ∀ p ∈ l, σ p.1 = some p.2
theorem Led.nil {σ : Store} : Led σ [] := ⟨List.nodup_nil, fun _ h => nomatch h⟩
theorem Led.get {σ : Store} {l : List (Addr × O)} (L : Led σ l) (n : Nat) {x : Addr} {o : O} (h : l[n]? = some (x, o)) : σ x = some o := L.at_ (x, o) (List.mem_of_getElem? h)
theorem Led.ne {σ : Store} {l : List (Addr × O)} (L : Led σ l) (i j : Nat) {x y : Addr} {o o' : O} (hi : l[i]? = some (x, o)) (hj : l[j]? = some (y, o')) (h : i ≠ j) : x ≠ y := by
  obtain ⟨hl, a⟩ := List.getElem?_eq_some_iff.mp hi
  obtain ⟨hl', b⟩ := List.getElem?_eq_some_iff.mp hj
  have nd := List.pairwise_iff_getElem.mp L.nd
  rcases Nat.lt_or_gt_of_ne h with q | q
  · have := nd i j (by simpa using hl) (by simpa using hl') q
    rw [List.getElem_map, List.getElem_map, a, b] at this
    exact this
  · have := nd j i (by simpa using hl') (by simpa using hl) q
    rw [List.getElem_map, List.getElem_map, a, b] at this
    exact Ne.symm this
theorem Led.set {σ : Store} {l : List (Addr × O)} (L : Led σ l) (n : Nat) {x : Addr} {o : O} (o' : O) (h : l[n]? = some (x, o)) : Led (σ.upd x o') (l.set n (x, o')) := by
  obtain ⟨hl, he⟩ := List.getElem?_eq_some_iff.mp h
  have hk : (l.set n (x, o')).map (·.1) = l.map (·.1) := by
    rw [List.map_set]
    show (l.map (·.1)).set n x = _
    rw [show x = (l.map (·.1))[n]'(by simpa using hl) by rw [List.getElem_map, he]]
    exact List.set_getElem_self _
  refine ⟨by rw [hk]; exact L.nd, fun p hp => ?_⟩
  obtain ⟨i, hi⟩ := List.mem_iff_getElem?.mp hp
  by_cases e : i = n
  · subst e
    rw [List.getElem?_set_self hl] at hi
    cases hi
    exact Store.hit
  · rw [List.getElem?_set_ne (Ne.symm e)] at hi
    exact Store.miss (L.ne i n (x := p.1) (o := p.2) hi h e) (L.get i hi)
theorem Led.setS {σ : Store} {l1 l2 : List (Addr × O)} {x : Addr} {o : O} (L : Led σ (l1 ++ (x, o) :: l2)) (o' : O) : Led (σ.upd x o') (l1 ++ (x, o') :: l2) := by
  have := L.set l1.length (x := x) (o := o) o' (by simp)
  simpa using this
theorem Led.new {σ : Store} {l : List (Addr × O)} (L : Led σ l) {x : Addr} (o : O) (h : σ x = none) : Led (σ.upd x o) ((x, o) :: l) := by
  refine ⟨?_, fun p hp => ?_⟩
  · rw [List.map_cons, List.nodup_cons]
    refine ⟨fun hm => ?_, L.nd⟩
    obtain ⟨p, hp, e⟩ := List.mem_map.mp hm
    have := L.at_ p hp
    rw [e, h] at this; cases this
  · rcases List.mem_cons.mp hp with rfl | hp
    · exact Store.hit
    · exact Store.at_fresh h (L.at_ p hp)
/-- what stands in the ledger is not what is free -/
theorem Led.free {σ : Store} {l : List (Addr × O)} (L : Led σ l) {x : Addr} (h : σ x = none) : x ∉ l.map (·.1) := fun hm => by
  obtain ⟨p, hp, e⟩ := List.mem_map.mp hm
  have := L.at_ p hp
  rw [e, h] at this; cases this
/-- a new object beside the ledger -/
theorem Led.add {σ σ' : Store} {l : List (Addr × O)} (L : Led σ l) (g : Grow σ σ') {x : Addr} {o : O} (h : σ x = none) (h' : σ' x = some o) : Led σ' ((x, o) :: l) := by
  refine ⟨?_, fun p hp => ?_⟩
  · rw [List.map_cons, List.nodup_cons]
    refine ⟨fun hm => ?_, L.nd⟩
    obtain ⟨p, hp, e⟩ := List.mem_map.mp hm
    have := L.at_ p hp
    rw [e, h] at this; cases this
  · rcases List.mem_cons.mp hp with rfl | hp
    · exact h'
    · exact g _ _ (L.at_ p hp)
theorem Led.add3 {σ σ' : Store} {l : List (Addr × O)} (L : Led σ l) (g : Grow σ σ') {x y z : Addr} {o1 o2 o3 : O} (h1 : σ x = none) (h2 : σ y = none) (h3 : σ z = none) (n1 : x ≠ y) (n2 : x ≠ z) (n3 : y ≠ z)
    (k1 : σ' x = some o1) (k2 : σ' y = some o2) (k3 : σ' z = some o3) : Led σ' ((x, o1) :: (y, o2) :: (z, o3) :: l) := by
  have a := L.free h1
  have b := L.free h2
  have c := L.free h3
  refine ⟨?_, fun p hp => ?_⟩
  · simp only [List.map_cons, List.nodup_cons, List.mem_cons, not_or]
    exact ⟨⟨n1, n2, a⟩, ⟨n3, b⟩, c, L.nd⟩
  · simp only [List.mem_cons] at hp
    rcases hp with rfl | rfl | rfl | hp
    · exact k1
    · exact k2
    · exact k3
    · exact g _ _ (L.at_ p hp)
theorem Led.grow {σ σ' : Store} {l : List (Addr × O)} (L : Led σ l) (g : Grow σ σ') : Led σ' l := ⟨L.nd, fun p hp => g _ _ (L.at_ p hp)⟩
theorem Led.perm {σ : Store} {l l' : List (Addr × O)} (L : Led σ l) (h : l'.Perm l) : Led σ l' := ⟨(h.map _).nodup_iff.mpr L.nd, fun p hp => L.at_ p (h.mem_iff.mp hp)⟩
theorem Led.sub {σ : Store} {l l' : List (Addr × O)} (L : Led σ l) (h : l'.Sublist l) : Led σ l' := ⟨(h.map _).nodup L.nd, fun p hp => L.at_ p (h.subset hp)⟩
/-- the kinds of two objects part their addresses -/
def O.kind : O → Nat
  | .list _ => 0
  | .sd _ => 1
  | .id _ => 2
  | .inst _ _ => 3
  | .tab _ _ => 4
  | .exc _ => 5
theorem Store.ne_kind {σ : Store} {x y : Addr} {o o' : O} (h1 : σ x = some o) (h2 : σ y = some o') (h : o.kind ≠ o'.kind) : x ≠ y := fun e => by
  subst e; rw [h1] at h2; cases h2; exact h rfl
end Mine

set_option autoImplicit false
set_option linter.unusedVariables false
namespace Mine
open PySem PySem.W PySem.SeqAt PyProof.Rows

section
variable {C : Cx} {A : Around} {env : Env} {ρ : Rho} {σ : Store} {X : XP} {s : Shared}

/-- what a while's body owes -/
def WhQ (I : Nat → Rho → Store → Prop) (n : Nat) (Q : FV → Rho → Store → Prop) (g : FV) (ρ : Rho) (σ : Store) : Prop :=
  match g with
  | .next | .cont => ∃ m, m < n ∧ I m ρ σ
  | .brk => Q .next ρ σ
  | .ret v => Q (.ret v) ρ σ
theorem WhQ.n {I : Nat → Rho → Store → Prop} {n : Nat} {Q : FV → Rho → Store → Prop} (h : ∃ m, m < n ∧ I m ρ σ) : WhQ I n Q .next ρ σ := h
/-- a while by an invariant with a measure -/
theorem Ex.while {test : Expr} {body : List Stmt} {pos : Pos} {Q : FV → Rho → Store → Prop} (I : Nat → Rho → Store → Prop)
    (turn : ∀ n ρ σ, I n ρ σ → Tst C A env test ρ σ (fun b σ1 => if b = true then Exs C A env body ρ σ1 (WhQ I n Q) (fun _ _ => False) else Q .next ρ σ1) (fun _ _ => False))
    (n : Nat) (h : I n ρ σ) : Ex C A env (.While test body [] pos) ρ σ Q X := by
  intro s S F
  refine wpAny_While (codeAny_whileLoop (fun n s' => ∃ ρ1 σ1, I n ρ1 σ1 ∧ St C σ1 s' ∧ Fm C σ1 s'.heap env ρ1 ∧ EvoF env σ s.heap σ1 s'.heap) ?_ n ⟨ρ, σ, h, S, F, .refl _⟩)
  rintro n s' ⟨ρ1, σ1, hI, S1, F1, e1⟩
  refine wpAny_mono (turn n ρ1 σ1 hI s' S1 F1) ?_ fun _ _ z => z.elim
  rintro b s2 ⟨σ2, h2, S2, e2⟩
  have F2 := F1.evo e2
  have e12 := e1.trans (e2.evoF F1.own)
  cases b with
  | false =>
    simp only [Bool.false_eq_true, if_false] at h2 ⊢
    exact wpAny_execs_nil ⟨.next, ρ1, σ2, h2, .next, S2, F2, e12⟩
  | true =>
    simp only [if_true] at h2 ⊢
    refine wpAny_mono (h2 s2 S2 F2) ?_ fun _ _ z => z.elim
    rintro f s3 ⟨g, ρ3, σ3, h3, r3, S3, F3, e3⟩
    have e13 := e12.trans e3
    cases r3 with
    | next => obtain ⟨m, hm, hI'⟩ := h3; exact ⟨m, hm, ρ3, σ3, hI', S3, F3, e13⟩
    | cont => obtain ⟨m, hm, hI'⟩ := h3; exact ⟨m, hm, ρ3, σ3, hI', S3, F3, e13⟩
    | brk => exact ⟨_, ρ3, σ3, h3, .next, S3, F3, e13⟩
    | ret r => exact ⟨_, ρ3, σ3, h3, .ret r, S3, F3, e13⟩

/- the last item of a tuple -/
theorem ItemWP.neg2 {x y : V} {Q : V → Store → Prop} (h : Q x σ) : ItemWP C A (.tup [y, x]) (.int (-1)) σ Q X :=
  ItemWP.tup (j := 1) (by decide) (by decide) rfl rfl h
theorem ItemWP.neg3 {x y z : V} {Q : V → Store → Prop} (h : Q x σ) : ItemWP C A (.tup [z, y, x]) (.int (-1)) σ Q X :=
  ItemWP.tup (j := 2) (by decide) (by decide) rfl rfl h
end
end Mine

set_option autoImplicit false
set_option linter.unusedVariables false
namespace Mine
open PySem PySem.W PySem.SeqAt PyProof.Rows

def enumV (xs : List V) : List V := xs.zipIdx.map fun p => .tup [.int (p.2 : Int), p.1]
theorem enumV_get {xs : List V} {k : Nat} : (enumV xs)[k]? = (xs[k]?).map fun x => V.tup [.int (k : Int), x] := by
  unfold enumV
  rw [List.getElem?_map, List.getElem?_zipIdx]
  cases xs[k]? <;> simp
section
variable {C : Cx} {A : Around} {env : Env} {ρ : Rho} {σ : Store} {X : XP} {s : Shared}

theorem Itr.enum {elts : List Expr} {k0 : Nat} {tp : Pos} {e it l : Addr} {xs : List V} (hh : A.handled = none) (hei : e ≠ it) (hle : l ≠ e) (hli : l ≠ it) :
    Itr C A (.Tuple elts k0 tp) (.ref e) (fun b => b = e ∨ b = it) (fun k h => (∃ old, IsEnum h e it k old) ∧ h.IsListIter it l k) (fun σ => LstAt C σ l xs) (enumV xs) where
  frame := fun k h h' ⟨⟨old, he⟩, hit⟩ _ kp => ⟨⟨old, kp e _ (.inl rfl) he⟩, hit.at fun o x => kp it o (.inr rfl) x⟩
  notTup := fun k h b o' ⟨⟨old, he⟩, ⟨o, eo, c, _⟩⟩ q z => by
    rcases q with rfl | rfl
    · rw [he] at z; cases z; exact Imm.not (by simp) (by simp) (by simp)
    · rw [eo] at z; cases z; exact Imm.not (by rw [c]; simp) (by rw [c]; simp) (by rw [c]; simp)
  notD := fun k h b o' ⟨⟨old, he⟩, ⟨o, eo, c, d⟩⟩ q z es n w => by
    rcases q with rfl | rfl
    · rw [he] at z; cases z; cases w
    · rw [eo] at z; cases z; rw [d] at w; cases w
  there := fun k h b ⟨⟨old, he⟩, ⟨o, eo, _⟩⟩ q => by
    rcases q with rfl | rfl
    · exact ⟨_, he⟩
    · exact ⟨_, eo⟩
  more := fun k σ s x Q X S hok hJ hx no hQ => by
    obtain ⟨items, hl, hr⟩ := hok.raw S
    obtain ⟨⟨old, he⟩, hit⟩ := hJ
    rw [enumV_get] at hx
    obtain ⟨y, hy, rfl⟩ := Option.map_eq_some_iff.mp hx
    obtain ⟨u, hu, ru⟩ := hr.get hy
    refine wpAny_pyNext_enum_item he hit hl (by simpa using hu) hei fun h' ho hit' hT hsz hk => ?_
    have helt : e < s.heap.objs.size := Heap.lt_size he
    have hilt : it < s.heap.objs.size := by obtain ⟨_, x, _⟩ := hit; exact Heap.lt_size x
    have kp : ∀ b o, ¬ (b = e ∨ b = it) → s.heap.get? b = some o → h'.get? b = some o := fun b o q e' => hk b o (fun z => q (.inl z)) (fun z => q (.inr z)) e'
    have tk : TupKeep s.heap h' := tk_ow (ow := fun b => b = e ∨ b = it) kp fun b o' q z => by
      obtain ⟨o, eo, c, _⟩ := hit
      rcases q with rfl | rfl
      · rw [he] at z; cases z; exact Imm.not (by simp) (by simp) (by simp)
      · rw [eo] at z; cases z; exact Imm.not (by rw [c]; simp) (by rw [c]; simp) (by rw [c]; simp)
    refine hQ (.ref s.heap.objs.size) h' (s.toks + 1) (.tup (n := 0) hT (.cons (.int _ _) (.cons (ru.mono tk) .nil))) kp (fun b o' q z => ?_) fun Q' X' hq => ?_
    · obtain ⟨o, eo, c, _⟩ := hit'
      rcases q with rfl | rfl
      · rw [ho] at z; cases z; exact Imm.not (by simp) (by simp) (by simp)
      · rw [eo] at z; cases z; exact Imm.not (by rw [c]; simp) (by rw [c]; simp) (by rw [c]; simp)
    · refine wpAny_letOwnedTupleGo_enum (s := { s with heap := h', toks := s.toks + 1 }) ho fun h'' he'' hs'' => ?_
      refine hq h'' (s.toks + 1) ⟨⟨_, by simpa using he''⟩, hit'.at fun o y => (hs''.2 it hei.symm).trans y⟩ fun b o q y => (hs''.2 b fun z => q (.inl z)).trans y
  self := fun k s Q X ⟨⟨old, he⟩, _⟩ hq => wpAny_pyIter_enum he hq
  done := fun k σ s Q X S hok hJ hx no hQ => by
    obtain ⟨items, hl, hr⟩ := hok.raw S
    obtain ⟨⟨old, he⟩, hit⟩ := hJ
    have hn : items[k]? = none := by
      rw [enumV_get, Option.map_eq_none_iff] at hx
      have h1 := List.getElem?_eq_none_iff.mp hx
      have h2 := hr.length
      simp only [Array.length_toList] at h2
      exact Array.getElem?_eq_none_iff.mpr (by (first | lia | omega))
    exact wpAny_pyNext_enum_end hh he hit hl hn fun h' hx => hQ h' s.toks fun b o q y => hx b o (fun z => q (.inr z)) y

/-- a tuple that stands at the text's top -/
theorem VR.gtup {a : Addr} {items : List Value} {n : Nat} {vs : List V} (h : C.K.lookup a = some (tupObj items.toArray n)) (r : VRs C.h₀ items vs) : VR C.h₀ (.ref a) (.tup vs) :=
  .tup (C.KX a _ h) (by simpa using r)
theorem Src.enum {e func : Expr} {pos : Pos} {elts : List Expr} {k0 : Nat} {tp : Pos} {Q : List V → (Store → Prop) → Store → Prop} (hh : A.handled = none)
    (h : Ev C A env func ρ σ (fun fx σ1 => fx = .typ "enumerate" ∧ Ags C A env pos [e] ρ σ1 (fun xs σ2 => ∃ l ys, xs = [.ref l] ∧ LstAt C σ2 l ys ∧ Q (enumV ys) (fun σ => LstAt C σ l ys) σ2) X) X)
    (hev : eval (.Call func [e] [] pos) env = (do callWith pos (← eval func env) [] (backTo pos (starEach [e] env)) (backToKw pos (keywordEach [] env))) := by kernel_rfl)
    (he : (backTo pos (starEach [e] env)).any (·.1) = false := by kernel_rfl) : Src C A env (.Tuple elts k0 tp) (.Call func [e] [] pos) ρ σ Q X := by
  intro s S F
  rw [hev]
  refine wpAny_bind (wpAny_mono (h s S F) ?_ fun _ _ z => z)
  rintro v s1 ⟨x, σ1, ⟨rfl, q⟩, r1, S1, e1⟩
  cases r1
  refine callWith_of (P := fun h => ∀ b o, C.h₀.get? b = some o → h.get? b = some o) (by rw [he]; rfl) Kp.typ ?_
  refine evalArgs_sp he (wpAny_mono (q s1 S1 (F.evo e1)) ?_ fun _ _ z => z)
  rintro vs s2 ⟨xs, σ2, ⟨l, ys, rfl, hl, hq⟩, r2, S2, e2⟩
  refine ⟨S2.base, ?_⟩
  cases r2 with
  | cons ra rb =>
    cases rb
    cases ra
    obtain ⟨items, il, rl⟩ := hl.raw S2
    have hlt : l < s2.heap.objs.size := by obtain ⟨_, z, _⟩ := il; exact Heap.lt_size z
    refine call_enumerate_list il fun h' hE hI hz kp => ?_
    refine wpAny_pyIter_enum (s := { s2 with heap := h' }) hE ?_
    have e12 := e1.trans e2
    have fr : ∀ b, (b = s2.heap.objs.size + 1 ∨ b = s2.heap.objs.size) → s2.heap.objs.size ≤ b := fun b w => by
      rcases w with w | w
      · rw [w]; exact Nat.le_succ _
      · rw [w]; exact Nat.le_refl _
    exact ⟨enumV ys, _, σ2, _, _, hq, Itr.enum hh (Nat.ne_of_gt (Nat.lt_succ_self _)) (Nat.ne_of_lt (Nat.lt_succ_of_lt hlt)) (Nat.ne_of_lt hlt), hl, S2.ext (t := s2.toks) kp, e12.trans (.ext kp), fun b w => ⟨Evo.fresh (h' := s2.heap) S2 e12 (fr b w), S2.fresh' (fr b w)⟩, ⟨⟨_, hE⟩, hI⟩⟩
theorem Src.enumN {e : Expr} {p pos : Pos} {elts : List Expr} {k0 : Nat} {tp : Pos} {Q : List V → (Store → Prop) → Store → Prop} (hh : A.handled = none)
    (h : Ev C A env (.Name (Str.ofString "enumerate") p) ρ σ (fun fx σ1 => fx = .typ "enumerate" ∧ Ags C A env pos [e] ρ σ1 (fun xs σ2 => ∃ l ys, xs = [.ref l] ∧ LstAt C σ2 l ys ∧ Q (enumV ys) (fun σ => LstAt C σ l ys) σ2) X) X)
    (hev : eval (.Call (.Name (Str.ofString "enumerate") p) [e] [] pos) env = (do callWith pos (← eval (.Name (Str.ofString "enumerate") p) env) [] (backTo pos (starEach [e] env)) (backToKw pos (keywordEach [] env))) := by kernel_rfl)
    (he : (backTo pos (starEach [e] env)).any (·.1) = false := by kernel_rfl) : Src C A env (.Tuple elts k0 tp) (.Call (.Name (Str.ofString "enumerate") p) [e] [] pos) ρ σ Q X := Src.enum hh h hev he
theorem enumV_map {α : Type} (f : α → V) (xs : List α) : enumV (xs.map f) = xs.zipIdx.map fun p => V.tup [.int (p.2 : Int), f p.1] := by
  unfold enumV
  rw [List.zipIdx_map, List.map_map]
  rfl
end
end Mine

set_option autoImplicit false
set_option linter.unusedVariables false
set_option maxRecDepth 100000
namespace Mine
open PySem PySem.W PySem.SeqAt PyProof.Rows

section
variable {prog : Program} {w : World} {A : Around} {E : Value → Shared → Prop} {s : Shared}
theorem isi_nested {P : Shared → Prop} (hP : ∀ s tk, P s → P { s with toks := tk }) {x : Value} {Tx : String} {tp : Addr} {cs : List Value} {vs : List Bool} {n : Nat} {tk : Tok} {s : Shared} {Q : PySem.Fin → Shared → Prop}
    (hx : s.TypeIs x Tx) (htp : s.heap.get? tp = some { cls := .type "tuple", data := .seq cs.toArray n }) (ha : AnswersAll P x cs vs) (hs : P s)
    (hq : ∀ tk', Q (.done (.ret (.bool (vs.any id)))) { s with toks := tk' }) : wpAny (model prog w) A (Builtin.«isinstance.nested» ⟨[x, .ref tp, .int 0 tk], []⟩) Q E s := by
  obtain ⟨h, g, d, t, os⟩ := s
  have hT2 : (⟨h, g, d, t, os⟩ : Shared).TypeIs (.ref tp) "tuple" := ⟨_, htp, rfl⟩
  have f1 := F.isi_sub_tuple
  repeat (any_goals (first | assumption | wp_step))
  refine wpAny_arrayLoop ?_
  simp only [Option.getD_some, List.toList_toArray]
  refine isinstance_items (dep := 0) hP cs vs _ _ ha hs fun tk' => ?_
  cases hv : vs.any id with
  | true =>
    simp only [if_true]
    repeat (any_goals (first | assumption | wp_step))
    exact hv ▸ hq tk'
  | false =>
    simp only [Bool.false_eq_true, if_false]
    repeat (any_goals (first | assumption | wp_step))
    exact hv ▸ hq tk'
theorem isi_tup {x : Value} {Tx : String} {tp : Addr} {cs : List Value} {vs : List Bool} {n : Nat} (ha : AnswersAll (fun s => s.TypeIs x Tx) x cs vs) :
    Meets (Builtin.«isinstance» ⟨[x, .ref tp], []⟩)
      (fun _ R s => s.TypeIs x Tx ∧ s.heap.get? tp = some { cls := .type "tuple", data := .seq cs.toArray n } ∧ ∀ tk, R (.ok (.ret (.bool (vs.any id)))) { s with toks := tk }) :=
  fun _ _ _ _ _ hs => isinstance_outer (isi_nested (fun _ tk h => h.toks tk) hs.1 hs.2.1 ha hs.1 hs.2.2) (Shared.TypeIs.not_mainsLoader hs.1)
end
section
variable {C : Cx} {A : Around} {σ : Store} {X : XP}
/-- isinstance(x, (list, tuple)) of a list or a tuple -/
theorem CallWP.isiLT {x : V} {t : Ty} {Q : V → Store → Prop} (ht : HasTy C σ x t) (h2 : t = .list ∨ t = .tup) (h : Q (.bool true) σ) : CallWP C A (.builtin "isinstance") [x, .tup [.typ "list", .typ "tuple"]] σ Q X := by
  intro s vs S r
  cases r with
  | cons r1 r2 =>
  cases r2 with
  | cons r2 r3 =>
  cases r3
  have b := ht.bears S r1
  cases r2 with
  | @tup tp items n _ hg hr =>
  obtain ⟨it⟩ := items
  cases hr with
  | cons q1 q2 =>
  cases q2 with
  | cons q2 q3 =>
  cases q3; cases q1; cases q2
  rcases h2 with rfl | rfl
  · obtain ⟨a, o, rfl, e, c⟩ := b
    exact call_isinstance (isi_tup (Tx := "list") (n := n) (cs := [.type "list", .type "tuple"]) (vs := [true, false]) (.cons (.of_true F.isi_meta_list F.sub_list_list) (.cons (.of_false_list (by decide +kernel) F.isi_meta_tuple F.sub_list_tuple) .nil))) ⟨⟨o, e, c⟩, hg, fun tk => EP.pureT S h (.bool _)⟩
  · obtain ⟨a, o, rfl, e, c⟩ := b
    exact call_isinstance (isi_tup (Tx := "tuple") (n := n) (cs := [.type "list", .type "tuple"]) (vs := [false, true]) (.cons (.of_false_tuple (by decide +kernel) F.isi_meta_list F.sub_tuple_list) (.cons (.of_true F.isi_meta_tuple F.sub_tuple_tuple) .nil))) ⟨⟨o, e, c⟩, hg, fun tk => EP.pureT S h (.bool _)⟩
end
end Mine

set_option autoImplicit false
set_option linter.unusedVariables false
namespace Mine
open PySem PySem.W PySem.SeqAt PyProof.Rows

section
variable {C : Cx} {A : Around} {env : Env} {ρ : Rho} {σ : Store} {X : XP} {s : Shared}
end
end Mine

set_option autoImplicit false
set_option linter.unusedVariables false
namespace Mine
open PySem PySem.W PySem.SeqAt PyProof.Rows
section
variable {C : Cx} {A : Around} {env : Env} {ρ : Rho} {σ : Store} {X : XP}
theorem is.nm {x : Str} {pos : Pos} {Q : V → Store → Prop} (h : Ev C A env (.Name x pos) ρ σ Q X) : Ev C A env (.Name x pos) ρ σ Q X := h
theorem is.cl {f : Expr} {args : List Expr} {pos : Pos} {Q : V → Store → Prop} (h : Ev C A env (.Call f args [] pos) ρ σ Q X) : Ev C A env (.Call f args [] pos) ρ σ Q X := h
theorem is.lc {elt : Expr} {gens : List Comprehension} {scope : Scope} {pos : Pos} {Q : V → Store → Prop} (h : Ev C A env (.ListComp elt gens scope pos) ρ σ Q X) : Ev C A env (.ListComp elt gens scope pos) ρ σ Q X := h
theorem is.dc {ks : List (Option Expr)} {vs : List Expr} {pos : Pos} {Q : V → Store → Prop} (h : Ev C A env (.Dict ks vs pos) ρ σ Q X) : Ev C A env (.Dict ks vs pos) ρ σ Q X := h
theorem is.alc {t elt : Expr} {gens : List Comprehension} {scope : Scope} {pos spos : Pos} {Q : FV → Rho → Store → Prop} (h : Ex C A env (.Assign [t] (.ListComp elt gens scope pos) spos) ρ σ Q X) : Ex C A env (.Assign [t] (.ListComp elt gens scope pos) spos) ρ σ Q X := h
end
end Mine

set_option autoImplicit false
namespace Mine
theorem is.br {b : Bool} {P Q : Prop} (h : if b = true then P else Q) : if b = true then P else Q := h
end Mine

set_option autoImplicit false
set_option linter.unusedVariables false
set_option maxRecDepth 100000
namespace Mine
open PySem PySem.W PySem.SeqAt PyProof.Rows
/- own exceptions that fly through frames and loops; P: what stands of the store behind them -/
/-- the frames below stand, and are not this one -/
def FrO (C : Cx) (σ : Store) (h : Heap) (env : Env) (l : List Env) : Prop := Frs C σ h l ∧ ∀ e' ∈ l, ∀ L, e'.frame = some L → ¬ Own env L
/-- an own exception in this frame: made here, noted here, or come from a call -/
def XE (C : Cx) (env : Env) (l : List Env) (σ : Store) (h : Heap) (D : Addr) (P : Store → Prop) (v : Value) (s' : Shared) : Prop :=
  ∃ σ1 ρ1 h1 e, v = .ref e ∧ P σ1 ∧ St C σ1 { s' with heap := h1 } ∧ Fm C σ1 h1 env ρ1 ∧ FrO C σ1 h1 env l ∧ EvoF env σ h σ1 h1 ∧ h1.get? e = none ∧ h1.UpToSlots s'.heap ∧
    ((∃ vs, Heap.MadeExcOf h1 s'.heap e (.ref D) vs) ∨ ∃ B t fs, Hid C σ1 h1 fs ∧ (∀ b o, h1.get? b = some o → b ∉ fs → B.get? b = some o) ∧
      (Heap.HeldW B (env :: l) e (.ref D) (.ref t) env.locals s'.heap ∨ Heap.FlyingW B (env :: l) e (.ref D) (.ref t) s'.heap))
/-- an own exception out of a call -/
def XF (C : Cx) (σ : Store) (h : Heap) (l : List Env) (D : Addr) (P : Store → Prop) (v : Value) (s' : Shared) : Prop :=
  ∃ σ1 h1 e B t fs, v = .ref e ∧ P σ1 ∧ St C σ1 { s' with heap := h1 } ∧ Evo σ h σ1 h1 ∧ Hid C σ1 h1 fs ∧ (∀ b o, h1.get? b = some o → b ∉ fs → B.get? b = some o) ∧ h1.get? e = none ∧ h1.UpToSlots s'.heap ∧ Heap.FlyingW B l e (.ref D) (.ref t) s'.heap
section
variable {C : Cx} {A : Around} {env : Env} {ρ : Rho} {σ : Store} {X : XP} {s : Shared} {l : List Env} {D : Addr} {P : Store → Prop}
/-- statements that may raise D -/
def ExR (C : Cx) (A : Around) (env : Env) (l : List Env) (D : Addr) (P : Store → Prop) (st : Stmt) (ρ : Rho) (σ : Store) (Q : FV → Rho → Store → Prop) : Prop :=
  ∀ s, St C σ s → Fm C σ s.heap env ρ → FrO C σ s.heap env l → wpAny C.M A (exec st env) (SP C env σ s.heap Q) (XE C env l σ s.heap D P) s
def ExsR (C : Cx) (A : Around) (env : Env) (l : List Env) (D : Addr) (P : Store → Prop) (ss : List Stmt) (ρ : Rho) (σ : Store) (Q : FV → Rho → Store → Prop) : Prop :=
  ∀ s, St C σ s → Fm C σ s.heap env ρ → FrO C σ s.heap env l → wpAny C.M A (execs ss env) (SP C env σ s.heap Q) (XE C env l σ s.heap D P) s
def EvR (C : Cx) (A : Around) (env : Env) (l : List Env) (D : Addr) (P : Store → Prop) (e : Expr) (ρ : Rho) (σ : Store) (Q : V → Store → Prop) : Prop :=
  ∀ s, St C σ s → Fm C σ s.heap env ρ → FrO C σ s.heap env l → wpAny C.M A (eval e env) (EP C σ s.heap Q) (XE C env l σ s.heap D P) s
def CallX (C : Cx) (A : Around) (l : List Env) (D : Addr) (P : Store → Prop) (f : Value) (args : List V) (σ : Store) (Q : V → Store → Prop) : Prop :=
  ∀ s vs, St C σ s → VRs s.heap vs args → Frs C σ s.heap l → wpAny C.M A (call f vs) (EP C σ s.heap Q) (XF C σ s.heap l D P) s
def ThenR (C : Cx) (A : Around) (env : Env) (l : List Env) (D : Addr) (P : Store → Prop) (ss : List Stmt) (Q : FV → Rho → Store → Prop) (g : FV) (ρ : Rho) (σ : Store) : Prop :=
  match g with
  | .next => ExsR C A env l D P ss ρ σ Q
  | g => Q g ρ σ
variable {Q : FV → Rho → Store → Prop}
/-- the turns of a for, item by item -/
def ForR (C : Cx) (A : Around) (env : Env) (l : List Env) (D : Addr) (P : Store → Prop) (target : Expr) (body : List Stmt) (ok : Store → Prop) (Q : FV → Rho → Store → Prop) : List V → Rho → Store → Prop
  | [], ρ, σ => Q .next ρ σ
  | x :: xs, ρ, σ => Asg C A env target x ρ σ (fun ρ1 σ1 => ExsR C A env l D P body ρ1 σ1 (fun g ρ2 σ2 => match g with
      | .next | .cont => ok σ2 ∧ ForR C A env l D P target body ok Q xs ρ2 σ2
      | .brk => Q .next ρ2 σ2
      | .ret v => Q (.ret v) ρ2 σ2)) (fun _ _ => False)
end
end Mine

set_option autoImplicit false
set_option linter.unusedVariables false
set_option maxRecDepth 100000
namespace Mine
open PySem PySem.W PySem.SeqAt PyProof.Rows
/-- a code that may raise D -/
def CodX (C : Cx) (A : Around) (l : List Env) (D : Addr) (P : Store → Prop) (f : Value) (args : List V) (σ : Store) (Q : V → Store → Prop) : Prop :=
  ∀ s vs, St C σ s → VRs s.heap vs args → Frs C σ s.heap l → codeAny C.M A (.call f ⟨vs, []⟩) (fun r s' => match r with | .ok (.ret v) => EP C σ s.heap Q v s' | .error v => XF C σ s.heap l D P v s' | _ => False) s
/-- statements that look at the frames and raise nothing -/
def ExsO (C : Cx) (A : Around) (env : Env) (l : List Env) (ss : List Stmt) (ρ : Rho) (σ : Store) (Q : FV → Rho → Store → Prop) : Prop :=
  ∀ s, St C σ s → Fm C σ s.heap env ρ → FrO C σ s.heap env l → wpAny C.M A (execs ss env) (SP C env σ s.heap Q) (fun _ _ => False) s
section
variable {C : Cx} {A : Around} {env : Env} {ρ : Rho} {σ : Store} {X : XP} {s : Shared} {l : List Env} {D : Addr} {P : Store → Prop}
end
end Mine

set_option autoImplicit false
namespace Mine
open PySem PySem.W PySem.Calls PyProof.Rows

section
variable {tb : String → Option Builtin} {p : Program} {w : World} {n₀ : Nat} {ann : Option Value}
theorem through_of_end {t : Thread} {f : Flow} (h : endAt 0 t = some f) : through t = true := by
  obtain ⟨cur, code, pos, st⟩ := t
  cases st with
  | cons a b => simp [endAt] at h
  | nil =>
    cases cur with
    | pure x => cases x with
      | done g => rfl
      | again c => simp [endAt] at h
    | _ => simp [endAt] at h
theorem through_of_none {t : Thread} (h : endAt 0 t = none) : through t = false := by
  obtain ⟨cur, code, pos, st⟩ := t
  cases st with
  | cons a b => rfl
  | nil =>
    cases cur with
    | pure x => cases x with
      | done g => simp [endAt] at h
      | again c => rfl
    | _ => rfl
theorem topRun_of_seg : ∀ {n : Nat} {s s' : Shared} {t : Thread} {f : Flow} {c : Code} {q : Pos}, segRun tb p w n₀ ann 0 n s t = some (f, s', c, q) → topRun tb p w n₀ ann n s t = some s'
  | 0, _, _, _, _, _, _, h => by cases h
  | n + 1, s, s', t, f, c, q, h => by
    unfold segRun at h
    unfold topRun
    cases he : endAt 0 t with
    | some x => rw [he] at h; cases h; rw [through_of_end he]
    | none =>
      rw [he] at h
      rw [through_of_none he]
      cases hk : stepOk n₀ ann t with
      | false => rw [hk] at h; cases h
      | true =>
        rw [hk] at h
        cases hs : step (denote tb) p w s t with
        | halt o s₂ => rw [hs] at h; cases h
        | go s₂ t₂ => rw [hs] at h; exact topRun_of_seg h
end

/-- what is looked at behind the top -/
def looksAt {α : Type} (p q : Program) (loose : List Str) (Xt : Shared → Bool) (Yf : Shared → α) (g0 : Bool) (H₀ : Heap) (s : Shared) :=
  ((staticsOk (importedModules p.main.body) H₀ s.heap && namesBound p s.heap && gensDone s && laidKept H₀ s.heap), openSeen q loose (importedModules p.main.body) Xt g0 s, Yf s)

/-- the head by one run over a tree of objects -/
theorem left_of_run {p q : Program} {loose : List Str} {Xt : Shared → Bool} {α : Type} {Yf : Shared → α} {Ya : World → α} {N : Nat} {g0 : Bool} {T₀ : Params → BT} {n₀ : Nat} {life : Life} {ann : Option Value} {d₀ : Drawn} {k₀ : Nat} {M : Nat} {H₀ : Params → Heap}
    (open_ : ∀ w : World, (fencedOpening treeTable p w N).map (fun s => (s.heap, s.gens, s.drawn, s.toks)) = some (H₀ w.params, Array.mk [], d₀, k₀))
    (tree : ∀ P, absHeap (T₀ P) n₀ life = H₀ P)
    (size : ∀ w : World, ((H₀ w.params).isNs mainGlobals, (H₀ w.params).nsMap mainGlobals "__annotations__") = (true, ann))
    (le : Nat.ble M N = true)
    (run : ∀ w : World, (fun os => (segRunT treeTable p w n₀ ann 0 M ⟨T₀ w.params, n₀, life, Array.mk [], d₀, k₀, os⟩ (topStub p)).map fun r => looksAt p q loose Xt Yf g0 (H₀ w.params) r.2.1.abs) = fun _ => some (true, openGood q loose, Ya w)) :
    LeftO p q loose Xt Yf Ya N g0 := fun w => by
  obtain ⟨⟨h, gs, d, k, os⟩, e, e'⟩ := Option.map_eq_some_iff.mp (open_ w)
  obtain ⟨rfl, rfl, rfl, rfl⟩ : h = H₀ w.params ∧ gs = Array.mk [] ∧ d = d₀ ∧ k = k₀ := by simpa using e'
  obtain ⟨z1, z3⟩ : _ ∧ _ := by simpa only [Prod.mk.injEq] using size w
  obtain ⟨⟨f, sT, c, pos⟩, r1, r2⟩ := Option.map_eq_some_iff.mp (congrFun (run w) os)
  obtain ⟨l1, l2, l3⟩ : _ ∧ _ ∧ _ := by simpa only [looksAt, Prod.mk.injEq] using r2
  have r0 := topRun_of_seg (segRun_of r1)
  have r := topRun_mono (N - M) _ _ _ _ r0
  rw [show M + (N - M) = N by have := Nat.le_of_ble_eq_true le; omega] at r
  have hz : (H₀ w.params).objs.size = n₀ := by rw [← tree, absHeap_size]
  have ea : (SharedT.mk (T₀ w.params) n₀ life (Array.mk []) d k os).abs = ⟨H₀ w.params, Array.mk [], d, k, os⟩ := by
    show Shared.mk (absHeap (T₀ w.params) n₀ life) _ _ _ _ = _
    rw [tree]
  rw [ea] at r
  have t : topFrom treeTable p w N ⟨H₀ w.params, Array.mk [], d, k, os⟩ = some sT.abs := by
    unfold topFrom
    dsimp only
    rw [z1, hz, z3, r]
    show (match staticsOk (importedModules p.main.body) (H₀ w.params) sT.abs.heap && namesBound p sT.abs.heap && gensDone sT.abs && laidKept (H₀ w.params) sT.abs.heap with | true => some sT.abs | false => none) = _
    rw [l1]
  unfold openEnds
  rw [e]
  show (topFrom treeTable p w N _).map _ = _
  rw [t]
  exact congrArg some (Prod.ext l2 l3)
end Mine

set_option autoImplicit false
namespace Mine
open PySem PySem.W PySem.Calls PyProof.Rows

/- the written part: objects by projection out of the program -/
def nth : List Stmt → Nat → Stmt
  | [], _ => .Pass ⟨0, 0, 0, 0⟩
  | a :: _, 0 => a
  | _ :: l, n + 1 => nth l n
def clsBody : Stmt → List Stmt
  | .ClassDef _ _ _ b _ _ _ _ _ _ _ => b
  | _ => []
def fnO (s : Stmt) (q : Str) (m : Value) (c : Addr) : Obj := match s with
  | .FunctionDef n a b _ _ _ sc _ _ _ => ⟨.type "function", none, .func { name := n, qualname := q, params := a, body := .stmts b, scope := sc, globals := 3, closure := [], defaults := .none, kwdefaults := .none, pyModule := m, code := .ref c }, #[]⟩
  | _ => default
def defRec : Stmt → DefRec
  | .FunctionDef n a b _ _ _ sc _ _ pos => ⟨n, a, b, sc, pos⟩
  | _ => ⟨Str.empty, ⟨[], [], none, [], [], none, []⟩, [], ⟨.module, [], false, false, []⟩, ⟨0, 0, 0, 0⟩⟩
abbrev sv (s : String) (t : Nat) : Value := .str (Str.ofString s) t
abbrev rv (a : Nat) : Value := .ref a
abbrev nv (i : Int) (t : Nat) : Value := .int i t
abbrev de (P : Params) (s : String) (t : Nat) (v : Value) : DictEntry := ⟨PyData.keyHash P (Str.ofString s), .str (Str.ofString s) t, v⟩
abbrev dictO (es : List DictEntry) (n : Nat) : Obj := ⟨.type "dict", none, .dict es.toArray n, #[]⟩
abbrev codeO (vs : List Value) : Obj := ⟨.type "code", none, .fields vs.toArray, #[]⟩

/- the tree of the objects that stand ahead of the text -/
def mkT (l : List Obj) : BT := (l.foldl (fun (t, i) o => (BT.ins t i o, i + 1)) (BT.nil, 0)).1
noncomputable def T0 (P : Params) : BT := mkT (boot_heap P).objs.toList
theorem T0_abs (P : Params) : absHeap (T0 P) 11 {} = boot_heap P := by kernel_rfl
theorem boot_size : ∀ w : World, ((boot_heap w.params).isNs mainGlobals, (boot_heap w.params).nsMap mainGlobals "__annotations__") = (true, some (.ref 6)) := fun w => by kernel_rfl
end Mine

namespace Mine
open PySem PySem.W PySem.Calls PyProof.Rows
set_option Elab.async false
set_option maxRecDepth 1000000
set_option maxHeartbeats 0
noncomputable def keepL : List Nat := [0, 2, 3, 4, 5, 6, 7, 9, 10, 11, 12, 13, 15, 16, 17, 18, 19, 20, 21, 22, 23, 25, 27, 28, 30, 31, 32, 33, 34, 35, 36, 37]
noncomputable def KL : Params → Frag := fun P =>
  (nat_lit 2, ⟨.none, none, .dict [].toArray 0, #[]⟩) ::
  (nat_lit 3, (dictO [de P "__name__" 165 (sv "law_uf030038_06" 618), de P "__doc__" 166 .none, de P "__package__" 167 .none, de P "__loader__" 168 (.builtin "__main__.__loader__#opaque"), de P "__spec__" 169 .none, de P "__annotations__" 170 (rv 6), de P "__builtins__" 171 (rv 4), de P "__file__" 173 (sv "/claim/cut.py" 172), de P "__cached__" 174 .none, de P "_wall" 193 (rv 21), de P "LoomError" 213 (rv 31), de P "NoWord" 229 (rv 44), de P "NoHandler" 245 (rv 56), de P "Twice" 261 (rv 68), de P "Stranger" 277 (rv 80), de P "NoCount" 293 (rv 92), de P "SIGNS" 297 (sv "abcdefghijklmnopqrstuvwxyz" 296), de P "MOST_SIGNS" 299 (nv (12) 298), de P "is_whole" 306 (rv 101), de P "is_word" 312 (rv 106), de P "need_word" 319 (rv 113), de P "MOST_HANDLERS" 323 (nv (40) 322), de P "MOST_DEEDS" 325 (nv (30) 324), de P "MOST_TICKS" 327 (nv (1000000000) 326), de P "WITH_A_WORD" 333 (rv 114), de P "is_deed" 340 (rv 121), de P "is_handler" 346 (rv 126), de P "need_handlers" 358 (rv 133), de P "need_names" 364 (rv 138), de P "hearers" 370 (rv 143), de P "Waits" 438 (rv 191), de P "Frame" 472 (rv 212), de P "Loom" 617 (rv 322), de P "_law_told_at" 627 (rv 333), de P "_law_mixed" 637 (rv 340), de P "_law_name_by" 648 (rv 347), de P "_law_handlers_by" 661 (rv 354), de P "_law_rows_of" 675 (rv 361), de P "_law_run" 689 (rv 368), de P "_law_kinds" 695 (rv 373), de P "law" 701 (rv 378)] 41)) ::
  (nat_lit 20, (codeO [(sv "_wall" 187), (sv "_wall" 188), (sv "/claim/cut.py" 189), (nv (1) 0), (nv (1) 0), (nv (0) 0), (nv (0) 0), (nv (3) 0), (rv 15), (.bool true), (nv (181) 0), (rv 16), .none, (rv 17), (rv 18), (rv 19), (nv (191) 0), (nv (1) 0), (sv "/claim/cut.py" 192)])) ::
  (nat_lit 21, (fnO (nth PySem.Challenge.pw_uf030038_06.main.body 0) (Str.ofString "_wall") (sv "__main__" 164) 20)) ::
  (nat_lit 30, (dictO [de P "__module__" 203 (sv "eventloom.errors" 194), de P "__firstlineno__" 207 (nv (5) 206), de P "__static_attributes__" 208 (rv 29), de P "__weakref__" 210 (rv 32), de P "__doc__" 211 .none] 3)) ::
  (nat_lit 31, ⟨.type "type", none, .cls { name := Str.ofString "LoomError", bases := [(.type "ValueError")], mro := [(rv 31), (.type "ValueError"), (.type "Exception"), (.type "BaseException"), (.type "object")], ns := 30, qualname := Str.ofString "LoomError", hasDict := true, slotNames := [], subclasses := [(rv 44), (rv 56), (rv 68), (rv 80), (rv 92)], abstract := false, collection := none, hasDel := false }, [some (rv 22), none, some (sv "LoomError" 196), some (sv "LoomError" 204), some (.builtin "ValueError.__new__"), some (.bool true)].toArray⟩) ::
  (nat_lit 32, ⟨(.type "getset_descriptor"), none, .fields [(sv "__weakref__" 209), (rv 31), (.builtin "ExceptionGroup.__weakref__"), .none].toArray, #[]⟩) ::
  (nat_lit 43, (dictO [de P "__module__" 221 (sv "eventloom.errors" 194), de P "__firstlineno__" 225 (nv (7) 224), de P "__static_attributes__" 226 (rv 42), de P "__doc__" 227 .none] 2)) ::
  (nat_lit 44, ⟨.type "type", none, .cls { name := Str.ofString "NoWord", bases := [(rv 31)], mro := [(rv 44), (rv 31), (.type "ValueError"), (.type "Exception"), (.type "BaseException"), (.type "object")], ns := 43, qualname := Str.ofString "NoWord", hasDict := true, slotNames := [], subclasses := [], abstract := false, collection := none, hasDel := false }, [some (rv 35), none, some (sv "NoWord" 214), some (sv "NoWord" 222), some (.builtin "ValueError.__new__"), some (.bool true)].toArray⟩) ::
  (nat_lit 55, (dictO [de P "__module__" 237 (sv "eventloom.errors" 194), de P "__firstlineno__" 241 (nv (9) 240), de P "__static_attributes__" 242 (rv 54), de P "__doc__" 243 .none] 2)) ::
  (nat_lit 56, ⟨.type "type", none, .cls { name := Str.ofString "NoHandler", bases := [(rv 31)], mro := [(rv 56), (rv 31), (.type "ValueError"), (.type "Exception"), (.type "BaseException"), (.type "object")], ns := 55, qualname := Str.ofString "NoHandler", hasDict := true, slotNames := [], subclasses := [], abstract := false, collection := none, hasDel := false }, [some (rv 47), none, some (sv "NoHandler" 230), some (sv "NoHandler" 238), some (.builtin "ValueError.__new__"), some (.bool true)].toArray⟩) ::
  (nat_lit 67, (dictO [de P "__module__" 253 (sv "eventloom.errors" 194), de P "__firstlineno__" 257 (nv (11) 256), de P "__static_attributes__" 258 (rv 66), de P "__doc__" 259 .none] 2)) ::
  (nat_lit 68, ⟨.type "type", none, .cls { name := Str.ofString "Twice", bases := [(rv 31)], mro := [(rv 68), (rv 31), (.type "ValueError"), (.type "Exception"), (.type "BaseException"), (.type "object")], ns := 67, qualname := Str.ofString "Twice", hasDict := true, slotNames := [], subclasses := [], abstract := false, collection := none, hasDel := false }, [some (rv 59), none, some (sv "Twice" 246), some (sv "Twice" 254), some (.builtin "ValueError.__new__"), some (.bool true)].toArray⟩) ::
  (nat_lit 79, (dictO [de P "__module__" 269 (sv "eventloom.errors" 194), de P "__firstlineno__" 273 (nv (13) 272), de P "__static_attributes__" 274 (rv 78), de P "__doc__" 275 .none] 2)) ::
  (nat_lit 80, ⟨.type "type", none, .cls { name := Str.ofString "Stranger", bases := [(rv 31)], mro := [(rv 80), (rv 31), (.type "ValueError"), (.type "Exception"), (.type "BaseException"), (.type "object")], ns := 79, qualname := Str.ofString "Stranger", hasDict := true, slotNames := [], subclasses := [], abstract := false, collection := none, hasDel := false }, [some (rv 71), none, some (sv "Stranger" 262), some (sv "Stranger" 270), some (.builtin "ValueError.__new__"), some (.bool true)].toArray⟩) ::
  (nat_lit 91, (dictO [de P "__module__" 285 (sv "eventloom.errors" 194), de P "__firstlineno__" 289 (nv (15) 288), de P "__static_attributes__" 290 (rv 90), de P "__doc__" 291 .none] 2)) ::
  (nat_lit 92, ⟨.type "type", none, .cls { name := Str.ofString "NoCount", bases := [(rv 31)], mro := [(rv 92), (rv 31), (.type "ValueError"), (.type "Exception"), (.type "BaseException"), (.type "object")], ns := 91, qualname := Str.ofString "NoCount", hasDict := true, slotNames := [], subclasses := [], abstract := false, collection := none, hasDel := false }, [some (rv 83), none, some (sv "NoCount" 278), some (sv "NoCount" 286), some (.builtin "ValueError.__new__"), some (.bool true)].toArray⟩) ::
  (nat_lit 100, (codeO [(sv "is_whole" 300), (sv "is_whole" 301), (sv "/claim/cut.py" 302), (nv (20) 0), (nv (1) 0), (nv (0) 0), (nv (0) 0), (nv (3) 0), (rv 95), (.bool true), (nv (181) 0), (rv 96), .none, (rv 97), (rv 98), (rv 99), (nv (304) 0), (nv (20) 0), (sv "/claim/cut.py" 305)])) ::
  (nat_lit 101, (fnO (nth PySem.Challenge.pw_uf030038_06.main.body 11) (Str.ofString "is_whole") (sv "eventloom.words" 294) 100)) ::
  (nat_lit 105, (codeO [(sv "is_word" 307), (sv "is_word" 308), (sv "/claim/cut.py" 309), (nv (22) 0), (nv (1) 0), (nv (0) 0), (nv (0) 0), (nv (3) 0), (rv 102), (.bool true), (nv (181) 0), (rv 103), .none, .none, .none, (rv 104), (nv (310) 0), (nv (22) 0), (sv "/claim/cut.py" 311)])) ::
  (nat_lit 106, (fnO (nth PySem.Challenge.pw_uf030038_06.main.body 12) (Str.ofString "is_word") (sv "eventloom.words" 294) 105)) ::
  (nat_lit 112, (codeO [(sv "need_word" 313), (sv "need_word" 314), (sv "/claim/cut.py" 315), (nv (26) 0), (nv (1) 0), (nv (0) 0), (nv (0) 0), (nv (3) 0), (rv 107), (.bool true), (nv (181) 0), (rv 108), .none, (rv 109), (rv 110), (rv 111), (nv (317) 0), (nv (26) 0), (sv "/claim/cut.py" 318)])) ::
  (nat_lit 113, (fnO (nth PySem.Challenge.pw_uf030038_06.main.body 13) (Str.ofString "need_word") (sv "eventloom.words" 294) 112)) ::
  (nat_lit 114, ⟨(.type "tuple"), none, .seq [(sv "now" 328), (sv "soon" 329), (sv "cancel" 330), (sv "join" 331), (sv "leave" 332)].toArray 0, #[]⟩) ::
  (nat_lit 120, (codeO [(sv "is_deed" 334), (sv "is_deed" 335), (sv "/claim/cut.py" 336), (nv (35) 0), (nv (1) 0), (nv (0) 0), (nv (0) 0), (nv (3) 0), (rv 115), (.bool true), (nv (181) 0), (rv 116), .none, (rv 117), (rv 118), (rv 119), (nv (338) 0), (nv (35) 0), (sv "/claim/cut.py" 339)])) ::
  (nat_lit 121, (fnO (nth PySem.Challenge.pw_uf030038_06.main.body 19) (Str.ofString "is_deed") (sv "eventloom.handlers" 320) 120)) ::
  (nat_lit 125, (codeO [(sv "is_handler" 341), (sv "is_handler" 342), (sv "/claim/cut.py" 343), (nv (45) 0), (nv (1) 0), (nv (0) 0), (nv (0) 0), (nv (3) 0), (rv 122), (.bool true), (nv (181) 0), (rv 123), .none, .none, .none, (rv 124), (nv (344) 0), (nv (45) 0), (sv "/claim/cut.py" 345)])) ::
  (nat_lit 126, (fnO (nth PySem.Challenge.pw_uf030038_06.main.body 20) (Str.ofString "is_handler") (sv "eventloom.handlers" 320) 125)) ::
  (nat_lit 132, (codeO [(sv "need_handlers" 347), (sv "need_handlers" 348), (sv "/claim/cut.py" 349), (nv (55) 0), (nv (1) 0), (nv (0) 0), (nv (0) 0), (nv (3) 0), (rv 127), (.bool true), (nv (181) 0), (rv 128), .none, (rv 129), (rv 130), (rv 131), (nv (356) 0), (nv (55) 0), (sv "/claim/cut.py" 357)])) ::
  (nat_lit 133, (fnO (nth PySem.Challenge.pw_uf030038_06.main.body 21) (Str.ofString "need_handlers") (sv "eventloom.handlers" 320) 132)) ::
  (nat_lit 137, (codeO [(sv "need_names" 359), (sv "need_names" 360), (sv "/claim/cut.py" 361), (nv (70) 0), (nv (2) 0), (nv (0) 0), (nv (0) 0), (nv (3) 0), (rv 134), (.bool true), (nv (181) 0), (rv 135), .none, .none, .none, (rv 136), (nv (362) 0), (nv (70) 0), (sv "/claim/cut.py" 363)])) ::
  (nat_lit 138, (fnO (nth PySem.Challenge.pw_uf030038_06.main.body 22) (Str.ofString "need_names") (sv "eventloom.handlers" 320) 137)) ::
  (nat_lit 142, (codeO [(sv "hearers" 365), (sv "hearers" 366), (sv "/claim/cut.py" 367), (nv (80) 0), (nv (3) 0), (nv (0) 0), (nv (0) 0), (nv (3) 0), (rv 139), (.bool true), (nv (181) 0), (rv 140), .none, .none, .none, (rv 141), (nv (368) 0), (nv (80) 0), (sv "/claim/cut.py" 369)])) ::
  (nat_lit 143, (fnO (nth PySem.Challenge.pw_uf030038_06.main.body 23) (Str.ofString "hearers") (sv "eventloom.handlers" 320) 142)) ::
  (nat_lit 156, (codeO [(sv "__init__" 385), (sv "Waits.__init__" 386), (sv "/claim/cut.py" 387), (nv (89) 0), (nv (1) 0), (nv (0) 0), (nv (0) 0), (nv (3) 0), (rv 151), (.bool true), (nv (181) 0), (rv 152), .none, (rv 153), (rv 154), (rv 155), (nv (389) 0), (nv (89) 0), (sv "/claim/cut.py" 390)])) ::
  (nat_lit 157, (fnO (nth (clsBody (nth PySem.Challenge.pw_uf030038_06.main.body 25)) 0) (Str.ofString "Waits.__init__") (sv "eventloom.waits" 371) 156)) ::
  (nat_lit 163, (codeO [(sv "sooner" 392), (sv "Waits.sooner" 393), (sv "/claim/cut.py" 394), (nv (93) 0), (nv (2) 0), (nv (0) 0), (nv (0) 0), (nv (3) 0), (rv 158), (.bool true), (nv (181) 0), (rv 159), .none, (rv 160), (rv 161), (rv 162), (nv (397) 0), (nv (93) 0), (sv "/claim/cut.py" 398)])) ::
  (nat_lit 164, (fnO (nth (clsBody (nth PySem.Challenge.pw_uf030038_06.main.body 25)) 1) (Str.ofString "Waits.sooner") (sv "eventloom.waits" 371) 163)) ::
  (nat_lit 170, (codeO [(sv "later" 400), (sv "Waits.later" 401), (sv "/claim/cut.py" 402), (nv (96) 0), (nv (3) 0), (nv (0) 0), (nv (0) 0), (nv (3) 0), (rv 165), (.bool true), (nv (181) 0), (rv 166), .none, (rv 167), (rv 168), (rv 169), (nv (406) 0), (nv (96) 0), (sv "/claim/cut.py" 407)])) ::
  (nat_lit 171, (fnO (nth (clsBody (nth PySem.Challenge.pw_uf030038_06.main.body 25)) 2) (Str.ofString "Waits.later") (sv "eventloom.waits" 371) 170)) ::
  (nat_lit 175, (codeO [(sv "lineup" 409), (sv "Waits.lineup" 410), (sv "/claim/cut.py" 411), (nv (99) 0), (nv (1) 0), (nv (0) 0), (nv (0) 0), (nv (3) 0), (rv 172), (.bool true), (nv (181) 0), (rv 173), .none, .none, .none, (rv 174), (nv (412) 0), (nv (99) 0), (sv "/claim/cut.py" 413)])) ::
  (nat_lit 176, (fnO (nth (clsBody (nth PySem.Challenge.pw_uf030038_06.main.body 25)) 3) (Str.ofString "Waits.lineup") (sv "eventloom.waits" 371) 175)) ::
  (nat_lit 182, (codeO [(sv "lead" 415), (sv "Waits.lead" 416), (sv "/claim/cut.py" 417), (nv (102) 0), (nv (1) 0), (nv (0) 0), (nv (0) 0), (nv (3) 0), (rv 177), (.bool true), (nv (181) 0), (rv 178), .none, (rv 179), (rv 180), (rv 181), (nv (420) 0), (nv (102) 0), (sv "/claim/cut.py" 421)])) ::
  (nat_lit 183, (fnO (nth (clsBody (nth PySem.Challenge.pw_uf030038_06.main.body 25)) 4) (Str.ofString "Waits.lead") (sv "eventloom.waits" 371) 182)) ::
  (nat_lit 187, (codeO [(sv "drop" 423), (sv "Waits.drop" 424), (sv "/claim/cut.py" 425), (nv (111) 0), (nv (2) 0), (nv (0) 0), (nv (0) 0), (nv (3) 0), (rv 184), (.bool true), (nv (181) 0), (rv 185), .none, .none, .none, (rv 186), (nv (426) 0), (nv (111) 0), (sv "/claim/cut.py" 427)])) ::
  (nat_lit 188, (fnO (nth (clsBody (nth PySem.Challenge.pw_uf030038_06.main.body 25)) 5) (Str.ofString "Waits.drop") (sv "eventloom.waits" 371) 187)) ::
  (nat_lit 190, (dictO [de P "__module__" 380 (sv "eventloom.waits" 371), de P "__firstlineno__" 384 (nv (87) 383), de P "__init__" 391 (rv 157), de P "sooner" 399 (rv 164), de P "later" 408 (rv 171), de P "lineup" 414 (rv 176), de P "lead" 422 (rv 183), de P "drop" 428 (rv 188), de P "__static_attributes__" 431 (rv 189), de P "__dict__" 433 (rv 192), de P "__weakref__" 435 (rv 193), de P "__doc__" 436 .none] 4)) ::
  (nat_lit 191, ⟨.type "type", none, .cls { name := Str.ofString "Waits", bases := [(.type "object")], mro := [(rv 191), (.type "object")], ns := 190, qualname := Str.ofString "Waits", hasDict := true, slotNames := [], subclasses := [], abstract := false, collection := none, hasDel := false }, [none, none, some (sv "Waits" 373), some (sv "Waits" 381), some (.builtin "object.__new__"), some (.bool true)].toArray⟩) ::
  (nat_lit 192, ⟨(.type "getset_descriptor"), none, .fields [(sv "__dict__" 432), (rv 191), (.builtin "function.__dict__"), (.builtin "function.__dict__#set")].toArray, #[]⟩) ::
  (nat_lit 193, ⟨(.type "getset_descriptor"), none, .fields [(sv "__weakref__" 434), (rv 191), (.builtin "ExceptionGroup.__weakref__"), .none].toArray, #[]⟩) ::
  (nat_lit 208, (codeO [(sv "__init__" 453), (sv "Frame.__init__" 454), (sv "/claim/cut.py" 455), (nv (117) 0), (nv (3) 0), (nv (0) 0), (nv (0) 0), (nv (3) 0), (rv 203), (.bool true), (nv (181) 0), (rv 204), .none, (rv 205), (rv 206), (rv 207), (nv (459) 0), (nv (117) 0), (sv "/claim/cut.py" 460)])) ::
  (nat_lit 209, (fnO (nth (clsBody (nth PySem.Challenge.pw_uf030038_06.main.body 27)) 0) (Str.ofString "Frame.__init__") (sv "eventloom.loom" 439) 208)) ::
  (nat_lit 211, (dictO [de P "__module__" 448 (sv "eventloom.loom" 439), de P "__firstlineno__" 452 (nv (115) 451), de P "__init__" 461 (rv 209), de P "__static_attributes__" 465 (rv 210), de P "__dict__" 467 (rv 213), de P "__weakref__" 469 (rv 214), de P "__doc__" 470 .none] 4)) ::
  (nat_lit 212, ⟨.type "type", none, .cls { name := Str.ofString "Frame", bases := [(.type "object")], mro := [(rv 212), (.type "object")], ns := 211, qualname := Str.ofString "Frame", hasDict := true, slotNames := [], subclasses := [], abstract := false, collection := none, hasDel := false }, [none, none, some (sv "Frame" 441), some (sv "Frame" 449), some (.builtin "object.__new__"), some (.bool true)].toArray⟩) ::
  (nat_lit 213, ⟨(.type "getset_descriptor"), none, .fields [(sv "__dict__" 466), (rv 212), (.builtin "function.__dict__"), (.builtin "function.__dict__#set")].toArray, #[]⟩) ::
  (nat_lit 214, ⟨(.type "getset_descriptor"), none, .fields [(sv "__weakref__" 468), (rv 212), (.builtin "ExceptionGroup.__weakref__"), .none].toArray, #[]⟩) ::
  (nat_lit 229, (codeO [(sv "__init__" 485), (sv "Loom.__init__" 486), (sv "/claim/cut.py" 487), (nv (123) 0), (nv (3) 0), (nv (0) 0), (nv (0) 0), (nv (3) 0), (rv 224), (.bool true), (nv (181) 0), (rv 225), .none, (rv 226), (rv 227), (rv 228), (nv (491) 0), (nv (123) 0), (sv "/claim/cut.py" 492)])) ::
  (nat_lit 230, (fnO (nth (clsBody (nth PySem.Challenge.pw_uf030038_06.main.body 28)) 0) (Str.ofString "Loom.__init__") (sv "eventloom.loom" 439) 229)) ::
  (nat_lit 236, (codeO [(sv "send" 494), (sv "Loom.send" 495), (sv "/claim/cut.py" 496), (nv (133) 0), (nv (2) 0), (nv (0) 0), (nv (0) 0), (nv (3) 0), (rv 231), (.bool true), (nv (181) 0), (rv 232), .none, (rv 233), (rv 234), (rv 235), (nv (500) 0), (nv (133) 0), (sv "/claim/cut.py" 501)])) ::
  (nat_lit 237, (fnO (nth (clsBody (nth PySem.Challenge.pw_uf030038_06.main.body 28)) 1) (Str.ofString "Loom.send") (sv "eventloom.loom" 439) 236)) ::
  (nat_lit 243, (codeO [(sv "step" 503), (sv "Loom.step" 504), (sv "/claim/cut.py" 505), (nv (140) 0), (nv (1) 0), (nv (0) 0), (nv (0) 0), (nv (3) 0), (rv 238), (.bool true), (nv (181) 0), (rv 239), .none, (rv 240), (rv 241), (rv 242), (nv (509) 0), (nv (140) 0), (sv "/claim/cut.py" 510)])) ::
  (nat_lit 244, (fnO (nth (clsBody (nth PySem.Challenge.pw_uf030038_06.main.body 28)) 2) (Str.ofString "Loom.step") (sv "eventloom.loom" 439) 243)) ::
  (nat_lit 250, (codeO [(sv "begin" 512), (sv "Loom.begin" 513), (sv "/claim/cut.py" 514), (nv (157) 0), (nv (2) 0), (nv (0) 0), (nv (0) 0), (nv (3) 0), (rv 245), (.bool true), (nv (181) 0), (rv 246), .none, (rv 247), (rv 248), (rv 249), (nv (518) 0), (nv (157) 0), (sv "/claim/cut.py" 519)])) ::
  (nat_lit 251, (fnO (nth (clsBody (nth PySem.Challenge.pw_uf030038_06.main.body 28)) 3) (Str.ofString "Loom.begin") (sv "eventloom.loom" 439) 250)) ::
  (nat_lit 257, (codeO [(sv "go_on" 521), (sv "Loom.go_on" 522), (sv "/claim/cut.py" 523), (nv (162) 0), (nv (2) 0), (nv (0) 0), (nv (0) 0), (nv (3) 0), (rv 252), (.bool true), (nv (181) 0), (rv 253), .none, (rv 254), (rv 255), (rv 256), (nv (526) 0), (nv (162) 0), (sv "/claim/cut.py" 527)])) ::
  (nat_lit 258, (fnO (nth (clsBody (nth PySem.Challenge.pw_uf030038_06.main.body 28)) 4) (Str.ofString "Loom.go_on") (sv "eventloom.loom" 439) 257)) ::
  (nat_lit 264, (codeO [(sv "call_in" 529), (sv "Loom.call_in" 530), (sv "/claim/cut.py" 531), (nv (171) 0), (nv (3) 0), (nv (0) 0), (nv (0) 0), (nv (3) 0), (rv 259), (.bool true), (nv (181) 0), (rv 260), .none, (rv 261), (rv 262), (rv 263), (nv (536) 0), (nv (171) 0), (sv "/claim/cut.py" 537)])) ::
  (nat_lit 265, (fnO (nth (clsBody (nth PySem.Challenge.pw_uf030038_06.main.body 28)) 5) (Str.ofString "Loom.call_in") (sv "eventloom.loom" 439) 264)) ::
  (nat_lit 271, (codeO [(sv "send_away" 539), (sv "Loom.send_away" 540), (sv "/claim/cut.py" 541), (nv (179) 0), (nv (2) 0), (nv (0) 0), (nv (0) 0), (nv (3) 0), (rv 266), (.bool true), (nv (181) 0), (rv 267), .none, (rv 268), (rv 269), (rv 270), (nv (545) 0), (nv (179) 0), (sv "/claim/cut.py" 546)])) ::
  (nat_lit 272, (fnO (nth (clsBody (nth PySem.Challenge.pw_uf030038_06.main.body 28)) 6) (Str.ofString "Loom.send_away") (sv "eventloom.loom" 439) 271)) ::
  (nat_lit 276, (codeO [(sv "do_deed" 548), (sv "Loom.do_deed" 549), (sv "/claim/cut.py" 550), (nv (186) 0), (nv (3) 0), (nv (0) 0), (nv (0) 0), (nv (3) 0), (rv 273), (.bool true), (nv (181) 0), (rv 274), .none, .none, .none, (rv 275), (nv (551) 0), (nv (186) 0), (sv "/claim/cut.py" 552)])) ::
  (nat_lit 277, (fnO (nth (clsBody (nth PySem.Challenge.pw_uf030038_06.main.body 28)) 7) (Str.ofString "Loom.do_deed") (sv "eventloom.loom" 439) 276)) ::
  (nat_lit 283, (codeO [(sv "make" 554), (sv "Loom.make" 555), (sv "/claim/cut.py" 556), (nv (204) 0), (nv (3) 0), (nv (0) 0), (nv (0) 0), (nv (3) 0), (rv 278), (.bool true), (nv (181) 0), (rv 279), .none, (rv 280), (rv 281), (rv 282), (nv (562) 0), (nv (204) 0), (sv "/claim/cut.py" 563)])) ::
  (nat_lit 284, (fnO (nth (clsBody (nth PySem.Challenge.pw_uf030038_06.main.body 28)) 8) (Str.ofString "Loom.make") (sv "eventloom.loom" 439) 283)) ::
  (nat_lit 290, (codeO [(sv "run" 565), (sv "Loom.run" 566), (sv "/claim/cut.py" 567), (nv (218) 0), (nv (2) 0), (nv (0) 0), (nv (0) 0), (nv (3) 0), (rv 285), (.bool true), (nv (181) 0), (rv 286), .none, (rv 287), (rv 288), (rv 289), (nv (571) 0), (nv (218) 0), (sv "/claim/cut.py" 572)])) ::
  (nat_lit 291, (fnO (nth (clsBody (nth PySem.Challenge.pw_uf030038_06.main.body 28)) 9) (Str.ofString "Loom.run") (sv "eventloom.loom" 439) 290)) ::
  (nat_lit 297, (codeO [(sv "waiting" 574), (sv "Loom.waiting" 575), (sv "/claim/cut.py" 576), (nv (226) 0), (nv (1) 0), (nv (0) 0), (nv (0) 0), (nv (3) 0), (rv 292), (.bool true), (nv (181) 0), (rv 293), .none, (rv 294), (rv 295), (rv 296), (nv (578) 0), (nv (226) 0), (sv "/claim/cut.py" 579)])) ::
  (nat_lit 298, (fnO (nth (clsBody (nth PySem.Challenge.pw_uf030038_06.main.body 28)) 10) (Str.ofString "Loom.waiting") (sv "eventloom.loom" 439) 297)) ::
  (nat_lit 304, (codeO [(sv "around" 581), (sv "Loom.around" 582), (sv "/claim/cut.py" 583), (nv (229) 0), (nv (1) 0), (nv (0) 0), (nv (0) 0), (nv (3) 0), (rv 299), (.bool true), (nv (181) 0), (rv 300), .none, (rv 301), (rv 302), (rv 303), (nv (585) 0), (nv (229) 0), (sv "/claim/cut.py" 586)])) ::
  (nat_lit 305, (fnO (nth (clsBody (nth PySem.Challenge.pw_uf030038_06.main.body 28)) 11) (Str.ofString "Loom.around") (sv "eventloom.loom" 439) 304)) ::
  (nat_lit 311, (codeO [(sv "standing" 588), (sv "Loom.standing" 589), (sv "/claim/cut.py" 590), (nv (232) 0), (nv (1) 0), (nv (0) 0), (nv (0) 0), (nv (3) 0), (rv 306), (.bool true), (nv (181) 0), (rv 307), .none, (rv 308), (rv 309), (rv 310), (nv (592) 0), (nv (232) 0), (sv "/claim/cut.py" 593)])) ::
  (nat_lit 312, (fnO (nth (clsBody (nth PySem.Challenge.pw_uf030038_06.main.body 28)) 12) (Str.ofString "Loom.standing") (sv "eventloom.loom" 439) 311)) ::
  (nat_lit 318, (codeO [(sv "idle" 595), (sv "Loom.idle" 596), (sv "/claim/cut.py" 597), (nv (235) 0), (nv (1) 0), (nv (0) 0), (nv (0) 0), (nv (3) 0), (rv 313), (.bool true), (nv (181) 0), (rv 314), .none, (rv 315), (rv 316), (rv 317), (nv (599) 0), (nv (235) 0), (sv "/claim/cut.py" 600)])) ::
  (nat_lit 319, (fnO (nth (clsBody (nth PySem.Challenge.pw_uf030038_06.main.body 28)) 13) (Str.ofString "Loom.idle") (sv "eventloom.loom" 439) 318)) ::
  (nat_lit 321, (dictO [de P "__module__" 480 (sv "eventloom.loom" 439), de P "__firstlineno__" 484 (nv (121) 483), de P "__init__" 493 (rv 230), de P "send" 502 (rv 237), de P "step" 511 (rv 244), de P "begin" 520 (rv 251), de P "go_on" 528 (rv 258), de P "call_in" 538 (rv 265), de P "send_away" 547 (rv 272), de P "do_deed" 553 (rv 277), de P "make" 564 (rv 284), de P "run" 573 (rv 291), de P "waiting" 580 (rv 298), de P "around" 587 (rv 305), de P "standing" 594 (rv 312), de P "idle" 601 (rv 319), de P "__static_attributes__" 610 (rv 320), de P "__dict__" 612 (rv 323), de P "__weakref__" 614 (rv 324), de P "__doc__" 615 .none] 4)) ::
  (nat_lit 322, ⟨.type "type", none, .cls { name := Str.ofString "Loom", bases := [(.type "object")], mro := [(rv 322), (.type "object")], ns := 321, qualname := Str.ofString "Loom", hasDict := true, slotNames := [], subclasses := [], abstract := false, collection := none, hasDel := false }, [none, none, some (sv "Loom" 473), some (sv "Loom" 481), some (.builtin "object.__new__"), some (.bool true)].toArray⟩) ::
  (nat_lit 323, ⟨(.type "getset_descriptor"), none, .fields [(sv "__dict__" 611), (rv 322), (.builtin "function.__dict__"), (.builtin "function.__dict__#set")].toArray, #[]⟩) ::
  (nat_lit 324, ⟨(.type "getset_descriptor"), none, .fields [(sv "__weakref__" 613), (rv 322), (.builtin "ExceptionGroup.__weakref__"), .none].toArray, #[]⟩) ::
  (nat_lit 332, (codeO [(sv "_law_told_at" 620), (sv "_law_told_at" 621), (sv "/claim/cut.py" 622), (nv (238) 0), (nv (2) 0), (nv (0) 0), (nv (0) 0), (nv (3) 0), (rv 327), (.bool true), (nv (181) 0), (rv 328), .none, (rv 329), (rv 330), (rv 331), (nv (625) 0), (nv (238) 0), (sv "/claim/cut.py" 626)])) ::
  (nat_lit 333, (fnO (nth PySem.Challenge.pw_uf030038_06.main.body 30) (Str.ofString "_law_told_at") (sv "law_uf030038_06" 618) 332)) ::
  (nat_lit 339, (codeO [(sv "_law_mixed" 628), (sv "_law_mixed" 629), (sv "/claim/cut.py" 630), (nv (242) 0), (nv (3) 0), (nv (0) 0), (nv (0) 0), (nv (3) 0), (rv 334), (.bool true), (nv (181) 0), (rv 335), .none, (rv 336), (rv 337), (rv 338), (nv (635) 0), (nv (242) 0), (sv "/claim/cut.py" 636)])) ::
  (nat_lit 340, (fnO (nth PySem.Challenge.pw_uf030038_06.main.body 31) (Str.ofString "_law_mixed") (sv "law_uf030038_06" 618) 339)) ::
  (nat_lit 346, (codeO [(sv "_law_name_by" 638), (sv "_law_name_by" 639), (sv "/claim/cut.py" 640), (nv (245) 0), (nv (2) 0), (nv (0) 0), (nv (0) 0), (nv (3) 0), (rv 341), (.bool true), (nv (181) 0), (rv 342), .none, (rv 343), (rv 344), (rv 345), (nv (646) 0), (nv (245) 0), (sv "/claim/cut.py" 647)])) ::
  (nat_lit 347, (fnO (nth PySem.Challenge.pw_uf030038_06.main.body 32) (Str.ofString "_law_name_by") (sv "law_uf030038_06" 618) 346)) ::
  (nat_lit 353, (codeO [(sv "_law_handlers_by" 649), (sv "_law_handlers_by" 650), (sv "/claim/cut.py" 651), (nv (250) 0), (nv (2) 0), (nv (0) 0), (nv (0) 0), (nv (3) 0), (rv 348), (.bool true), (nv (181) 0), (rv 349), .none, (rv 350), (rv 351), (rv 352), (nv (659) 0), (nv (250) 0), (sv "/claim/cut.py" 660)])) ::
  (nat_lit 354, (fnO (nth PySem.Challenge.pw_uf030038_06.main.body 33) (Str.ofString "_law_handlers_by") (sv "law_uf030038_06" 618) 353)) ::
  (nat_lit 360, (codeO [(sv "_law_rows_of" 662), (sv "_law_rows_of" 663), (sv "/claim/cut.py" 664), (nv (260) 0), (nv (4) 0), (nv (0) 0), (nv (0) 0), (nv (3) 0), (rv 355), (.bool true), (nv (181) 0), (rv 356), .none, (rv 357), (rv 358), (rv 359), (nv (673) 0), (nv (260) 0), (sv "/claim/cut.py" 674)])) ::
  (nat_lit 361, (fnO (nth PySem.Challenge.pw_uf030038_06.main.body 34) (Str.ofString "_law_rows_of") (sv "law_uf030038_06" 618) 360)) ::
  (nat_lit 367, (codeO [(sv "_law_run" 676), (sv "_law_run" 677), (sv "/claim/cut.py" 678), (nv (272) 0), (nv (4) 0), (nv (0) 0), (nv (0) 0), (nv (3) 0), (rv 362), (.bool true), (nv (181) 0), (rv 363), .none, (rv 364), (rv 365), (rv 366), (nv (687) 0), (nv (272) 0), (sv "/claim/cut.py" 688)])) ::
  (nat_lit 368, (fnO (nth PySem.Challenge.pw_uf030038_06.main.body 35) (Str.ofString "_law_run") (sv "law_uf030038_06" 618) 367)) ::
  (nat_lit 372, (codeO [(sv "_law_kinds" 690), (sv "_law_kinds" 691), (sv "/claim/cut.py" 692), (nv (282) 0), (nv (1) 0), (nv (0) 0), (nv (0) 0), (nv (3) 0), (rv 369), (.bool true), (nv (181) 0), (rv 370), .none, .none, .none, (rv 371), (nv (693) 0), (nv (282) 0), (sv "/claim/cut.py" 694)])) ::
  (nat_lit 373, (fnO (nth PySem.Challenge.pw_uf030038_06.main.body 36) (Str.ofString "_law_kinds") (sv "law_uf030038_06" 618) 372)) ::
  (nat_lit 377, (codeO [(sv "law" 696), (sv "law" 697), (sv "/claim/cut.py" 698), (nv (289) 0), (nv (1) 0), (nv (0) 0), (nv (0) 0), (nv (3) 0), (rv 374), (.bool true), (nv (181) 0), (rv 375), .none, .none, .none, (rv 376), (nv (699) 0), (nv (289) 0), (sv "/claim/cut.py" 700)])) ::
  (nat_lit 378, (fnO (nth PySem.Challenge.pw_uf030038_06.main.body 37) (Str.ofString "law") (sv "law_uf030038_06" 618) 377)) :: []
noncomputable def asL : List Addr := [2, 3, 20, 21, 30, 31, 32, 43, 44, 55, 56, 67, 68, 79, 80, 91, 92, 100, 101, 105, 106, 112, 113, 114, 120, 121, 125, 126, 132, 133, 137, 138, 142, 143, 156, 157, 163, 164, 170, 171, 175, 176, 182, 183, 187, 188, 190, 191, 192, 193, 208, 209, 211, 212, 213, 214, 229, 230, 236, 237, 243, 244, 250, 251, 257, 258, 264, 265, 271, 272, 276, 277, 283, 284, 290, 291, 297, 298, 304, 305, 311, 312, 318, 319, 321, 322, 323, 324, 332, 333, 339, 340, 346, 347, 353, 354, 360, 361, 367, 368, 372, 373, 377, 378]
theorem asL_eq : ∀ P, asL = (KL P).map (·.1) := fun _ => by kernel_rfl
noncomputable abbrev HL : Hook := kmHook KL asL asL_eq [140]
noncomputable abbrev qL : Program := view PySem.Challenge.pw_uf030038_06 keepL
noncomputable abbrev XtL : Shared → Bool := fun s => xlAt qL [] s && recOk [] s
theorem saidL (h : PySem.Challenge.rw_uf030038_06.row.wellSaid = true → PySem.Challenge.rw_uf030038_06.row.Holds) : PySem.Challenge.rw_uf030038_06.Holds := by
  refine holds_law (by kernel_rfl) fun said => ?_
  exact h said
theorem runL : ∀ w : World, (fun os => (segRunT treeTable PySem.Challenge.pw_uf030038_06 w 11 (some (.ref 6)) 0 3154 ⟨T0 w.params, 11, {}, Array.mk [], boot_drawn, boot_toks, os⟩ (topStub PySem.Challenge.pw_uf030038_06)).map fun r => looksAt PySem.Challenge.pw_uf030038_06 qL [] XtL (Hook.obs HL) true (boot_heap w.params) r.2.1.abs) = fun _ => some (true, openGood qL [], Hook.val HL w) := by
  intro w
  unfold looksAt
  show _ = fun _ => some (true, openGood qL [], ((KL w.params).map fun p => some p.2, [140].map fun _ => some (tabObj #[])))
  unfold KL XtL qL
  rw [PySem.W.Fast.te10110043849684766642, PySem.W.Fast.te14364793385576792824, PySem.W.Fast.te4187177175401517315, PySem.W.Fast.te5923862056798008813]
  kernel_rfl
theorem leftL : LeftO PySem.Challenge.pw_uf030038_06 qL [] XtL (Hook.obs HL) (Hook.val HL) 6368 :=
  left_of_run (T₀ := T0) (n₀ := 11) (life := {}) (ann := some (.ref 6)) (M := 3154) (H₀ := boot_heap) (boot_open (by kernel_rfl) rfl fun _ => by kernel_rfl) T0_abs boot_size rfl runL
noncomputable abbrev dL : DefRec := defRec (nth PySem.Challenge.pw_uf030038_06.main.body 37)
theorem defL : defOf qL (Str.ofString "law") = some (dL, []) := by
  unfold qL dL
  kernel_rfl
theorem theL : PySem.Challenge.pw_uf030038_06.theDef (Str.ofString "law") = some (dL.params, dL.body, dL.scope) := by
  unfold dL
  kernel_rfl
theorem okL : (chainsOk qL && opensWell PySem.Challenge.pw_uf030038_06 && (frees PySem.Challenge.rw_uf030038_06.row.toRowW && PySem.Challenge.rw_uf030038_06.row.within.isEmpty)) = true := by
  show (chainsOk qL && opensWell PySem.Challenge.pw_uf030038_06 && (frees PySem.Challenge.rw_uf030038_06.row.toRowW && true)) = true
  unfold qL
  kernel_rfl
theorem bareL : PySem.Challenge.pw_uf030038_06.bare := ⟨rfl, rfl, rfl, rfl, rfl, by decide +kernel⟩
theorem hd (call : WalkO qL [] (XL qL []) (Hook.says HL) PySem.Challenge.rw_uf030038_06.row.toRowW dL [] (fun f vs => PySem.call f vs)) : PySem.Challenge.rw_uf030038_06.Holds :=
  saidL fun said => holds_open (r := PySem.Challenge.rw_uf030038_06.row) (q := qL) (loose := []) (Xt := XtL) (XP := XL qL []) (Yf := Hook.obs HL) (Ya := Hook.val HL) (YP := Hook.says HL) (N := 6368) leftL (Hook.of HL) (Hook.keeps HL) (fun s e => xl_of s (Bool.and_eq_true_iff.mp e).1) XL.keeps defL theL rfl (fun s e => recFacts_of (Bool.and_eq_true_iff.mp e).2) rfl said okL bareL (by w_witness2) call
end Mine

open PySem PySem.W PySem.SeqAt PyProof.Rows
set_option Elab.async false
set_option maxRecDepth 100000
set_option maxHeartbeats 8000000
set_option linter.unusedVariables false
set_option linter.unusedSimpArgs false
namespace Mine
theorem kept : KL = KL ∧ PySem.Challenge.rw_uf030038_06 = PySem.Challenge.rw_uf030038_06 := by
  k_fill
  exact ⟨rfl, rfl⟩
variable {C : Cx} {A : Around} {σ : Store} {X : XP}
theorem words : True := by
  k_with_none
  k_with "mK" => ((rw [hK]; k_is))
  k_with "mne" => (exact ofS_ne (by decide))
  k_with "mget" => (first   | with_reducible exact Rho.get_hit   | with_reducible exact Rho.gp_hit   | with_reducible assumption   | (focus ((with_reducible apply Rho.get_miss); (focus (k_extra "mne")); (focus (k_extra "mget"))))   | (focus ((with_reducible apply Rho.gp_miss4); (focus (k_extra "mne")); (focus (k_extra "mne")); (focus (k_extra "mne")); (focus (k_extra "mne")); (focus (k_extra "mget"))))   | (focus ((with_reducible apply Rho.gp_miss); (focus (k_extra "mne")); (focus (k_extra "mget")))))
  k_with "mput" => (first   | with_reducible exact Rho.put_hit   | with_reducible exact Rho.put_nil   | (focus ((with_reducible apply Rho.put_miss); (focus (k_extra "mne")); (focus (k_extra "mput"))))   | with_reducible exact rfl)
  k_with "mcapt" => (first   | exact Capt.nil   | (focus ((with_reducible apply Capt.take); (focus (k_extra "mget")); (focus (k_extra "mcapt"))))   | (focus ((with_reducible apply Capt.skip); (focus (decide)); (focus (k_extra "mcapt")))))
  k_with "mvrs" => (first   | exact VRs.nil   | (focus ((with_reducible apply VRs.cons); (focus (k_extra "mvr")); (focus (k_extra "mvrs")))))
  k_with "mvr" => (first | (focus ((with_reducible apply VR.gtup); (focus (k_extra "mK")); (focus (k_extra "mvrs")))) | exact VR.ref _ | exact VR.int _ _ | exact VR.str _ _ | exact VR.typ _ | exact VR.blt _ | exact VR.bool _ | exact VR.none)
  k_with "mname" => (first   | (focus ((with_reducible apply Ev.nloc); (focus (kernel_rfl!)); (focus (k_extra "mget")); rotate_left; (focus (kernel_rfl))))   | (focus ((with_reducible apply Ev.ncel); (focus (kernel_rfl!)); (focus (k_extra "mget")); rotate_left; (focus (kernel_rfl)); (focus (kernel_rfl))))   | (focus ((with_reducible apply Ev.nfree); (focus (kernel_rfl!)); (focus (k_extra "mget")); rotate_left; (focus (kernel_rfl)); (focus (kernel_rfl)); (focus (kernel_rfl))))   | (focus ((with_reducible apply Ev.nglob); (focus (kernel_rfl!)); (focus (k_extra "mK")); (focus (k_extra "mvr")); rotate_left; (focus (kernel_rfl))))   | (focus ((with_reducible apply Ev.nblt); (focus (kernel_rfl!)); (focus (k_extra "mK")); (focus (boot_by_name)); (focus (k_extra "mvr")); rotate_left; (focus (decide)); (focus (kernel_rfl)))))
  k_with "mcomp" => (first   | (focus ((with_reducible apply Ev.lcomp); (focus (k_extra "mcapt")); (focus (kernel_rfl!)); (focus (kernel_rfl!)); (focus (rfl)); rotate_left; (focus (kernel_rfl)); (focus (intro _; kernel_rfl)))))
  k_with "mcompA" => (first   | (focus ((with_reducible apply Ex.lassign); (focus (k_extra "mcapt")); (focus (kernel_rfl!)); (focus (kernel_rfl!)); (focus (rfl)); (focus (kernel_rfl!)); rotate_left; (focus (kernel_rfl)); (focus (kernel_rfl)); (focus (kernel_rfl)); (focus (intro _; kernel_rfl)))))
  k_with "msz" => (exact small_le rfl)
  k_with "mnea" => (first | with_reducible assumption | exact Ne.symm (by with_reducible assumption))
  k_with "mst" => (first   | with_reducible exact Store.hit   | with_reducible assumption   | (focus ((with_reducible apply Store.miss); (focus (k_extra "mnea")); (focus (k_extra "mst"))))   | (focus ((with_reducible apply Store.at_fresh); (focus (k_extra "mst")); (focus (k_extra "mst")))))
  k_with "mty" => ((focus ((with_reducible apply TyGo.mk); (focus (first | exact TyV.str | (focus ((with_reducible apply TyV.list); (focus (k_extra "mst")))))))))
  k_with "mom" => (first | (first | lia | omega) | (simp only [List.length_map, List.length_append, List.length_reverse, List.length_cons, List.length_nil, sizeLine_eq] at *; (first | lia | omega)) | (simp [sizeLine_eq] at *; (first | lia | omega)))
  k_with "msput" => (first   | with_reducible exact sput_nil   | with_reducible exact sput_hit   | (focus ((with_reducible apply sput_miss); (focus (k_extra "mne")); (focus (k_extra "msput")))))
  k_with "msget" => (first   | with_reducible exact sget_hit   | with_reducible assumption   | with_reducible exact sget_nil   | (focus ((with_reducible apply sget_miss); (focus (k_extra "mne")); (focus (k_extra "msget")))))
  k_with "mlst" => (first | (focus ((with_reducible apply LstAt.st); (focus (k_extra "mst")))) | with_reducible assumption)
  k_with "mhasty" => (first   | exact HasTy.none   | exact HasTy.bool _   | exact HasTy.int _   | exact HasTy.str _   | exact HasTy.tup _   | (focus ((with_reducible apply HasTy.list); (focus (k_extra "mlst"))))   | (focus ((with_reducible apply HasTy.sd); (focus (k_extra "mst"))))   | (focus ((with_reducible apply HasTy.id); (focus (k_extra "mst")))))
  k_with "mhasty" => (first   | exact HasTy.none   | exact HasTy.bool _   | exact HasTy.int _   | exact HasTy.str _   | exact HasTy.tup _   | (focus ((with_reducible apply HasTy.list); (focus (k_extra "mlst"))))   | (focus ((with_reducible apply HasTy.sd); (focus (k_extra "mst"))))   | (focus ((with_reducible apply HasTy.id); (focus (k_extra "mst")))))
  k_with "masg" => (first   | (focus ((with_reducible apply Asg.nloc); (focus (kernel_rfl!)); (focus (k_extra "mput")); rotate_left; (focus (kernel_rfl))))   | (focus ((with_reducible apply Asg.ncel); (focus (kernel_rfl!)); (focus (k_extra "mput")); rotate_left; (focus (kernel_rfl))))   | (focus ((with_reducible apply Asg.tup); (focus (first | assumption)); (focus (rfl)); rotate_left; (focus (kernel_rfl)); (focus (kernel_rfl))))   | (with_reducible refine Asg.sub ?_)   | (with_reducible refine Asg.attr' ?_))
  k_with "mobj" => (first   | k_extra "mname"   | ((with_reducible refine Ev.attr' ?_); k_extra "mname"; (focus ((with_reducible apply AttrWP.mk); (focus (k_extra "mst")); (focus (k_extra "mst")); (focus (k_extra "msget")); (focus (k_extra "mK")); (focus (k_extra "mK")); (focus (k_extra "mK")); (focus (k_extra "mK")); (focus ((intro _ q; cases q))))))   | ((with_reducible refine Ev.sub ?_); k_extra "mname"; (with_reducible refine Ev.cstr ?_); (focus ((with_reducible apply ItemWP.sd); (focus (k_extra "mst")); (focus (k_extra "msget"))))))
  k_with "mpop" => (first   | ((focus ((with_reducible refine' Ev.bmeth F.plainAttrs_list F.slot_list_pop F.type_list_pop ?_ ?_ ?_ ?_ ?_); rotate_left; (focus (kernel_rfl)); (focus (kernel_rfl)); (focus (kernel_rfl)); (focus (kernel_rfl)))); k_extra "mobj"; k_extra "mty")   | ((focus ((with_reducible refine' Ev.bmeth F.plainAttrs_dict F.slot_dict_pop F.type_dict_pop ?_ ?_ ?_ ?_ ?_); rotate_left; (focus (kernel_rfl)); (focus (kernel_rfl)); (focus (kernel_rfl)); (focus (kernel_rfl)))); k_extra "mobj"; k_extra "mty"))
  k_with "mmeth" => (first   | k_extra "mpop"   | (focus ((with_reducible refine' Ev.bmeth F.plainAttrs_list F.slot_list_append F.type_list_append ?_ ?_ ?_ ?_ ?_); rotate_left; (focus (kernel_rfl)); (focus (kernel_rfl)); (focus (kernel_rfl)); (focus (kernel_rfl))))   | (focus ((with_reducible refine' Ev.bmeth F.plainAttrs_list F.slot_list_remove F.type_list_remove ?_ ?_ ?_ ?_ ?_); rotate_left; (focus (kernel_rfl)); (focus (kernel_rfl)); (focus (kernel_rfl)); (focus (kernel_rfl))))   | (focus ((with_reducible refine' Ev.bmeth F.plainAttrs_list F.slot_list_clear F.type_list_clear ?_ ?_ ?_ ?_ ?_); rotate_left; (focus (kernel_rfl)); (focus (kernel_rfl)); (focus (kernel_rfl)); (focus (kernel_rfl))))   | (focus ((with_reducible refine' Ev.bmeth F.plainAttrs_list F.slot_list_reverse F.type_list_reverse ?_ ?_ ?_ ?_ ?_); rotate_left; (focus (kernel_rfl)); (focus (kernel_rfl)); (focus (kernel_rfl)); (focus (kernel_rfl))))   | (focus ((with_reducible refine' Ev.bmeth F.plainAttrs_str F.slot_str_join F.type_str_join ?_ ?_ ?_ ?_ ?_); rotate_left; (focus (kernel_rfl)); (focus (kernel_rfl)); (focus (kernel_rfl)); (focus (kernel_rfl))))   | (focus ((with_reducible refine' Ev.bmeth F.plainAttrs_list F.slot_list_insert F.type_list_insert ?_ ?_ ?_ ?_ ?_); rotate_left; (focus (kernel_rfl)); (focus (kernel_rfl)); (focus (kernel_rfl)); (focus (kernel_rfl))))   | (focus ((with_reducible refine' Ev.bmeth F.plainAttrs_list F.slot_list_index F.type_list_index ?_ ?_ ?_ ?_ ?_); rotate_left; (focus (kernel_rfl)); (focus (kernel_rfl)); (focus (kernel_rfl)); (focus (kernel_rfl))))   | (focus ((with_reducible refine' Ev.bmeth F.plainAttrs_list F.slot_list_count F.type_list_count ?_ ?_ ?_ ?_ ?_); rotate_left; (focus (kernel_rfl)); (focus (kernel_rfl)); (focus (kernel_rfl)); (focus (kernel_rfl))))   | (focus ((with_reducible refine' Ev.bmeth F.plainAttrs_str F.slot_str_upper F.type_str_upper ?_ ?_ ?_ ?_ ?_); rotate_left; (focus (kernel_rfl)); (focus (kernel_rfl)); (focus (kernel_rfl)); (focus (kernel_rfl)))))
  k_with "mcall" => (first   | (with_reducible refine Ev.callR ?_; k_extra "mname"; refine' ⟨_, rfl, (by k_extra "mK"), ?_⟩)   | (with_reducible refine Ev.callB ?_; k_extra "mname"; first | refine' ⟨_, .inl ⟨rfl, ?_⟩⟩ | refine' ⟨_, .inr ⟨rfl, ?_⟩⟩))
  k_with "mdict" => ((focus ((with_reducible refine Ev.dictS ?_ ?_ ?_ ?_ ?_); (focus rfl); (focus rfl); (focus exact List.cons_ne_nil _ _); (focus decide))))
  k_with "mev" => (first   | (focus ((with_reducible refine is.nm ?_); first | k_extra "mname"))   | (with_reducible refine Ev.cint ?_)   | (with_reducible refine Ev.cstr ?_)   | (with_reducible refine Ev.cbool ?_)   | (with_reducible refine Ev.cnone ?_)   | (with_reducible refine Ev.bin ?_)   | (with_reducible refine Ev.cmp ?_)   | (with_reducible refine Ev.slice ?_)   | (with_reducible refine Ev.sub ?_)   | (with_reducible refine Ev.attr' ?_)   | (with_reducible refine Ev.tuple ?_)   | (focus ((with_reducible refine is.cl ?_); first | k_extra "mmeth" | (with_reducible refine Ev.meth' ?_) | k_extra "mcall"))   | (with_reducible refine Ev.un ?_)   | (with_reducible refine Ev.chain ?_)   | (with_reducible refine Ev.boolop ?_)   | (with_reducible refine Ev.list ?_)   | (focus ((with_reducible refine is.lc ?_); first | k_extra "mcomp"))   | (focus ((with_reducible refine is.dc ?_); first | k_extra "mdict")))
  k_with "mex" => (first   | (with_reducible refine Ex.ret ?_)   | (with_reducible refine Ex.ite ?_)   | (with_reducible refine Ex.expr ?_)   | (focus ((with_reducible refine is.alc ?_); first | k_extra "mcompA"))   | (with_reducible refine Ex.assign ?_)   | (focus ((with_reducible apply Ex.for); rotate_left; (focus (intro _; kernel_rfl)))))
  k_with "m" => (first   | (focus ((with_reducible refine is.ev ?_); first | k_extra "mev"))   | (focus ((with_reducible refine is.exs ?_); first | (with_reducible refine Exs.cons ?_) | (with_reducible refine Exs.nil ?_)))   | (focus ((with_reducible refine is.thn ?_); first | (with_reducible refine Then.next ?_) | (with_reducible refine Then.ret ?_)))   | (focus ((with_reducible refine is.ags ?_); first | (with_reducible refine Ags.cons ?_) | (with_reducible refine Ags.nil ?_)))   | (focus ((with_reducible refine is.cmp ?_); first | (with_reducible refine CmpWP.eq_int ?_) | (with_reducible refine CmpWP.ne_int ?_) | (with_reducible refine CmpWP.lt_int ?_) | (with_reducible refine CmpWP.le_int ?_) | (with_reducible refine CmpWP.gt_int ?_) | (with_reducible refine CmpWP.ge_int ?_) | (with_reducible refine CmpWP.eq_str ?_) | (with_reducible refine CmpWP.ne_str ?_) | (with_reducible refine CmpWP.inStr ?_) | (with_reducible refine CmpWP.isNone ?_) | (with_reducible refine CmpWP.isNotNone ?_)))   | (focus ((with_reducible refine is.tst ?_); first | (with_reducible refine Tst.cmp ?_) | (with_reducible refine Tst.not ?_) | (with_reducible refine Tst.boolop ?_) | (with_reducible refine Tst.chain ?_) | (with_reducible refine Tst.val ?_)))   | (focus ((with_reducible refine is.ex ?_); first | k_extra "mex"))   | (focus ((with_reducible refine is.asg ?_); first | k_extra "masg"))   | (focus ((with_reducible refine is.bin ?_); first | (with_reducible refine BinWP.add_int ?_) | (with_reducible refine BinWP.sub_int ?_) | (focus ((with_reducible apply BinWP.mul_int); rotate_left; (focus (first | exact intMul_l (by decide) (by decide) | exact intMul_r (by decide) (by decide) | exact intMul_l (by (first | lia | omega)) (by (first | lia | omega)) | exact intMul_r (by (first | lia | omega)) (by (first | lia | omega)))))) | (focus ((with_reducible apply BinWP.fmod_int); (focus (decide)))) | (focus ((with_reducible apply BinWP.fdiv_int); (focus (decide)); (focus (decide))))))   | (focus ((with_reducible refine is.tru ?_); first | (with_reducible refine TruWP.bool ?_) | (focus ((with_reducible apply TruWP.list); (focus (k_extra "mlst")); (focus (k_extra "mom"))))))   | (focus ((with_reducible refine is.item ?_); first | (with_reducible refine ItemWP.tup0 ?_) | (with_reducible refine ItemWP.tup1 ?_) | (with_reducible refine ItemWP.tup2 ?_) | (with_reducible refine ItemWP.tup3 ?_) | (with_reducible refine ItemWP.tup4 ?_) | (with_reducible refine ItemWP.neg2 ?_) | (with_reducible refine ItemWP.neg3 ?_) | (focus ((with_reducible apply ItemWP.last); (focus (k_extra "mlst")))) | (focus ((with_reducible apply ItemWP.sd); (focus (k_extra "mst")); (focus (k_extra "msget"))))))   | (focus ((with_reducible refine is.call ?_); first | (focus ((with_reducible apply CallWP.isiLT); (focus (k_extra "mhasty")); (focus (first | exact Or.inl rfl | exact Or.inr rfl)))) | (focus ((with_reducible apply isi_t); (focus (k_extra "mhasty")); (focus (decide)); (focus (rfl)))) | (focus ((with_reducible apply CallWP.append); (focus (k_extra "mst")); (focus (k_extra "mom")))) | (focus ((with_reducible apply BltWP.len_list); (focus (k_extra "mlst")); (focus (k_extra "mom")))) | (focus ((with_reducible apply CallWP.len_tup); (focus (k_extra "mom")))) | (focus ((with_reducible apply CallWP.pop); (focus (k_extra "mst")); (focus (k_extra "mom")))) | (focus ((with_reducible apply CallWP.listOf); (focus (k_extra "mlst")); (focus (k_extra "mom")))) | (with_reducible refine CallWP.range1 ?_)))   | (focus ((with_reducible refine is.lp ?_); first | (with_reducible refine LpQ.n ?_)))   | (with_reducible refine WhQ.n ?_)   | (focus ((with_reducible refine is.br ?_); first | (focus ((with_reducible apply Br.t); (focus (rfl)))) | (focus ((with_reducible apply Br.f); (focus (rfl)))) | (focus ((with_reducible apply Br.t); (focus (decide +kernel)))) | (focus ((with_reducible apply Br.f); (focus (decide +kernel)))) | (focus ((with_reducible apply Br.t); (focus ((simp; done))))) | (focus ((with_reducible apply Br.f); (focus ((simp; done)))))))   | (with_reducible refine AllT.and_cons ?_)   | (with_reducible refine AllT.or_cons ?_)   | (with_reducible refine AllT.and_nil ?_)   | (with_reducible refine AllT.or_nil ?_)   | (with_reducible refine BoolE.one ?_)   | (with_reducible refine BoolE.and ?_)   | (with_reducible refine Ifs.nil ?_)   | (with_reducible refine Ifs.one ?_)   | (with_reducible refine UnWP.neg_int ?_)   | (with_reducible refine UnWP.not ?_)   | (with_reducible refine AsgO.cons ?_)   | (with_reducible refine AsgO.nil ?_)   | (with_reducible refine Prt.none ?_)   | (with_reducible refine Prt.some ?_)   | (with_reducible refine Prs.str ?_)   | (with_reducible refine Prs.nil ?_)   | k_extra "mty"   | (focus ((with_reducible apply Szs.mk); (focus (k_extra "msz"))))   | (focus ((with_reducible apply AttrWP.mk); (focus (k_extra "mst")); (focus (k_extra "mst")); (focus (k_extra "msget")); (focus (k_extra "mK")); (focus (k_extra "mK")); (focus (k_extra "mK")); (focus (k_extra "mK")); (focus ((intro _ q; cases q)))))   | (focus ((with_reducible apply MethWP.mk); (focus (k_extra "mst")); (focus (k_extra "mst")); (focus (k_extra "msget")); (focus (k_extra "mK")); (focus (k_extra "mK")); (focus (k_extra "mK")); (focus (k_extra "mK"))))   | (focus ((with_reducible apply SAttWP.mk); (focus (k_extra "mst")); (focus (k_extra "mst")); (focus (exact Nat.le_of_ble_eq_true rfl)); (focus (k_extra "mK")); (focus (k_extra "mK")); (focus (k_extra "mK")); (focus (k_extra "mK")); (focus (k_extra "msput"))))   | (focus ((with_reducible apply Src.enumN); (focus (assumption)); rotate_left; (focus (kernel_rfl)); (focus (kernel_rfl))))   | (with_reducible refine Src.of ?_)   | (focus ((with_reducible apply Eqs.mk); (focus (rfl)))))
  k_with "mdef0" => (refine' CallWP.def0  (by k_extra "mK") (by k_extra "mK") (by assumption) (by with_unfolding_all rfl) (by decide +kernel) (by kernel_rfl!) (by kernel_rfl!) (by rfl) (by rfl) (by rfl) ?_)
  k_with "mdef1" => (refine' CallWP.def1 _ (by k_extra "mK") (by k_extra "mK") (by assumption) (by intro _; with_unfolding_all rfl) (by decide +kernel) (by kernel_rfl!) (by kernel_rfl!) (by rfl) (by rfl) (by rfl) ?_)
  k_with "mdef2" => (refine' CallWP.def2 _ _ (by k_extra "mK") (by k_extra "mK") (by assumption) (by intro _ _; with_unfolding_all rfl) (by decide +kernel) (by kernel_rfl!) (by kernel_rfl!) (by rfl) (by rfl) (by rfl) ?_)
  k_with "mdef3" => (refine' CallWP.def3 _ _ _ (by k_extra "mK") (by k_extra "mK") (by assumption) (by intro _ _ _; with_unfolding_all rfl) (by decide +kernel) (by kernel_rfl!) (by kernel_rfl!) (by rfl) (by rfl) (by rfl) ?_)
  k_with "mdef4" => (refine' CallWP.def4 _ _ _ _ (by k_extra "mK") (by k_extra "mK") (by assumption) (by intro _ _ _ _; with_unfolding_all rfl) (by decide +kernel) (by kernel_rfl!) (by kernel_rfl!) (by rfl) (by rfl) (by rfl) ?_)
  k_with "mdef5" => (refine' CallWP.def5 _ _ _ _ _ (by k_extra "mK") (by k_extra "mK") (by assumption) (by intro _ _ _ _ _; with_unfolding_all rfl) (by decide +kernel) (by kernel_rfl!) (by kernel_rfl!) (by rfl) (by rfl) (by rfl) ?_)
  k_with "mdef6" => (refine' CallWP.def6 _ _ _ _ _ _ (by k_extra "mK") (by k_extra "mK") (by assumption) (by intro _ _ _ _ _ _; with_unfolding_all rfl) (by decide +kernel) (by kernel_rfl!) (by kernel_rfl!) (by rfl) (by rfl) (by rfl) ?_)
  k_with "mdef7" => (refine' CallWP.def7 _ _ _ _ _ _ _ (by k_extra "mK") (by k_extra "mK") (by assumption) (by intro _ _ _ _ _ _ _; with_unfolding_all rfl) (by decide +kernel) (by kernel_rfl!) (by kernel_rfl!) (by rfl) (by rfl) (by rfl) ?_)
  k_with "mdefC1" => (refine' CodC.def1 _ (by k_extra "mK") (by k_extra "mK") (by assumption) (by intro _; with_unfolding_all rfl) (by decide +kernel) (by kernel_rfl!) (by kernel_rfl!) (by rfl) (by rfl) (by rfl) ?_)
  k_with "mdefC2" => (refine' CodC.def2 _ _ (by k_extra "mK") (by k_extra "mK") (by assumption) (by intro _ _; with_unfolding_all rfl) (by decide +kernel) (by kernel_rfl!) (by kernel_rfl!) (by rfl) (by rfl) (by rfl) ?_)
  k_with "mdefC3" => (refine' CodC.def3 _ _ _ (by k_extra "mK") (by k_extra "mK") (by assumption) (by intro _ _ _; with_unfolding_all rfl) (by decide +kernel) (by kernel_rfl!) (by kernel_rfl!) (by rfl) (by rfl) (by rfl) ?_)
  trivial
structure WAt (σ : Store) (w dx n f : Addr) (near : List Int) (far : List (Int × Int)) : Prop where
  hw : σ w = some (.inst 191 dx)
  hd : σ dx = some (.sd [("near", .ref n), ("far", .ref f)])
  hn : σ n = some (.list (near.map V.int))
  hf : σ f = some (.list (far.map pv))
  nf : n ≠ f
theorem WAt.ne {σ : Store} {w dx n f : Addr} {near : List Int} {far : List (Int × Int)} (W : WAt σ w dx n f near far) : w ≠ dx ∧ w ≠ n ∧ w ≠ f ∧ dx ≠ n ∧ dx ≠ f := by
  obtain ⟨h1, h2, h3, h4, -⟩ := W
  refine ⟨?_, ?_, ?_, ?_, ?_⟩ <;> intro e <;> subst e
  · rw [h1] at h2; cases h2
  · rw [h1] at h3; cases h3
  · rw [h1] at h4; cases h4
  · rw [h2] at h3; cases h3
  · rw [h2] at h4; cases h4
theorem c_Waits (hK : C.K = KL C.w.params) {Q : V → Store → Prop} (hr : A.depth + 1 < recursionLimit) (hh : A.handled = none)
    (h : ∀ w dx n f σ', Grow σ σ' → σ w = none → σ dx = none → σ n = none → σ f = none → WAt σ' w dx n f [] [] → Q (.ref w) σ') : CallWP C A (.ref 191) [] σ Q X := by
  refine CallWP.cls (by k_extra "mK") (by k_extra "mK") (by k_extra "mK") fun w dx A1 hw hd hne h1 h2 h3 => ?_
  have hr1 : A1.depth < recursionLimit := by rw [h2]; exact hr
  k_extra "mdefC1"
  intro L A' a1 a2 a3
  have hh' : A'.handled = none := (a1.trans h1).trans hh
  have hne' : dx ≠ w := Ne.symm hne
  repeat k_extra "m"
  intro n hn
  obtain ⟨q1, hn0⟩ := Store.none_ne hn
  obtain ⟨q2, hn0⟩ := Store.none_ne hn0
  repeat k_extra "m"
  intro f hf
  obtain ⟨q3, hf0⟩ := Store.none_ne hf
  obtain ⟨q4, hf0⟩ := Store.none_ne hf0
  obtain ⟨q5, hf0⟩ := Store.none_ne hf0
  obtain ⟨q6, hf0⟩ := Store.none_ne hf0
  repeat k_extra "m"
  refine h w dx n f _ ?_ hw hd hn0 hf0 ⟨?_, ?_, ?_, ?_, Ne.symm q4⟩
  · exact (((((Grow.rfl'.upd hd).upd hw).upd hn0).upd hd).upd hf0).upd hd
  · k_extra "mst"
  · k_extra "mst"
  · simp only [List.map_nil]; k_extra "mst"
  · simp only [List.map_nil]; k_extra "mst"
theorem c_later (hK : C.K = KL C.w.params) {w dx n f : Addr} {near : List Int} {far : List (Int × Int)} {x d : Int} {Q : V → Store → Prop} (hr : A.depth < recursionLimit) (hh : A.handled = none) (W : WAt σ w dx n f near far) (hz : far.length ≤ 10000)
    (h : Q .none (σ.upd f (.list ((far ++ [(d, x)]).map pv)))) : CallWP C A (.ref 171) [.ref w, .int x, .int d] σ Q X := by
  obtain ⟨hw, hd, hn, hf, nf⟩ := W
  k_extra "mdef3"
  intro L A' a1 a2 a3
  have hh' : A'.handled = none := a1.trans hh
  repeat k_extra "m"
  show Q V.none _
  simpa [pv] using h
theorem eraseIdx_map' {α β : Type} (f : α → β) : ∀ (l : List α) (i : Nat), (l.map f).eraseIdx i = (l.eraseIdx i).map f
  | [], _ => rfl
  | _ :: _, 0 => rfl
  | a :: l, i + 1 => by simp [eraseIdx_map' f l i]
theorem idx_pairs (p : Int × Int) : ∀ (l : List (Int × Int)), p ∈ l → (l.map fun q : Int × Int => PyData.tuple [.int q.1, .int q.2]).findIdx? (fun y => PyData.eqv y (.tuple [.int p.1, .int p.2])) = some (l.idxOf p)
  | q :: l, h => by
    rw [List.map_cons, List.findIdx?_cons, List.idxOf_cons]
    have e : PyData.eqv (.tuple [.int q.1, .int q.2]) (.tuple [.int p.1, .int p.2]) = (q == p) := by
      rw [Bool.eq_iff_iff]
      simp [PyData.eqv, PyData.eqvAll, Prod.ext_iff]
    rw [e]
    cases z : q == p with
    | true => rfl
    | false =>
      have : p ∈ l := by
        rcases List.mem_cons.mp h with w | w
        · rw [w] at z; simp at z
        · exact w
      simp [idx_pairs p l this]
theorem c_lead (hK : C.K = KL C.w.params) {w dx n f : Addr} {near : List Int} {far : List (Int × Int)} {Q : V → Store → Prop} (hr : A.depth < recursionLimit) (hh : A.handled = none) (hu : A.units < 9000) (W : WAt σ w dx n f near far) (hz : near.length ≤ 10000) (hz2 : far.length ≤ 10000)
    (h1 : ∀ x r, near = x :: r → Q (.tup [.int x, .none]) (σ.upd n (.list (r.map V.int)))) (h2 : near = [] → far = [] → Q .none σ)
    (h3 : near = [] → ∀ p, p ∈ far → (∀ q ∈ far, lexlt q p = false) → Q (.tup [.int p.2, .int p.1]) (σ.upd f (.list ((far.erase p).map pv)))) : CallWP C A (.ref 183) [.ref w] σ Q X := by
  obtain ⟨hw, hd, hn, hf, nf⟩ := W
  k_extra "mdef1"
  intro L A' a1 a2 a3
  have hh' : A'.handled = none := a1.trans hh
  repeat k_extra "m"
  cases near with
  | cons x r =>
    refine Br.t (by simp) ?_
    repeat k_extra "m"
    refine CallWP.pop_at (j := 0) hn (by decide) (by rw [seqIndex_of (by (first | lia | omega)) (by simp <;> (first | lia | omega))]; rfl) rfl (by simp [sizeLine_eq] at *; (first | lia | omega)) ?_
    repeat k_extra "m"
    exact h1 x r rfl
  | nil =>
    refine Br.f (by simp) ?_
    repeat k_extra "m"
    cases far with
    | nil =>
      refine Br.t (by simp) ?_
      repeat k_extra "m"
      exact h2 rfl rfl
    | cons p0 r =>
      refine Br.f (by simp) ?_
      repeat k_extra "m"
      refine CallWP.minPairs hh' (by rw [a3]; simp only [cLine]; (first | lia | omega)) (.inl hf) (by simp) fun p hp hmin => ?_
      repeat k_extra "m"
      have hidx := idx_pairs p (p0 :: r) hp
      refine CallWP.remove (d := .tuple [.int p.1, .int p.2]) hf (.tup (.cons (.int _) (.cons (.int _) .nil))) (DRs.map (g := fun q : Int × Int => PyData.tuple [.int q.1, .int q.2]) fun q _ => .tup (.cons (.int _) (.cons (.int _) .nil))) (by simp [PyData.canLay0, PyData.canLayAll0]) (canLayAll_map fun q _ => by simp [PyData.canLay0, PyData.canLayAll0])
        (by rw [a3]; simp only [PyData.depth, PyData.depthAll, cLine]; (first | lia | omega)) (by simp [sizeLine_eq] at *; (first | lia | omega)) hidx ?_
      simp only [pv]
      repeat k_extra "m"
      have e : List.eraseIdx ((p0 :: r).map pv) ((p0 :: r).idxOf p) = ((p0 :: r).erase p).map pv := by
        rw [List.erase_eq_eraseIdx_of_idxOf rfl, eraseIdx_map']
      rw [e]
      exact h3 rfl p hp hmin
structure Hd where
  name : Str
  rank : Int
  hears : Str
  once : Bool
  deeds : V
def hv (h : Hd) : V := .tup [.str h.name, .int h.rank, .str h.hears, .bool h.once, h.deeds]
def hdOf (hs : List Hd) (n : Str) : Option Hd := hs.find? fun h => h.name == n
def rk (hs : List Hd) (n : Str) : Int := ((hdOf hs n).map (·.rank)).getD 0
def hrs (hs : List Hd) (n : Str) : Str := ((hdOf hs n).map (·.hears)).getD Str.empty
def foundF (hs : List Hd) (ns : List Str) (w : Str) : List Str := ns.filter fun n => (hrs hs n == Str.ofString "") || (hrs hs n == w)
def Heard (hs : List Hd) (ns : List Str) (w : Str) (out : List Str) : Prop := ∃ p : List Nat, p.Perm (List.range (foundF hs ns w).length) ∧ p.Pairwise (slt fun i j => decide (rk hs ((foundF hs ns w).getD i Str.empty) < rk hs ((foundF hs ns w).getD j Str.empty))) ∧ out = p.map fun i => (foundF hs ns w).getD i Str.empty
theorem hdOf_mem : ∀ {hs : List Hd} {h : Hd}, (hs.map (·.name)).Nodup → h ∈ hs → hdOf hs h.name = some h
  | k :: hs, h, nd, hm => by
    simp only [List.map_cons, List.nodup_cons] at nd
    unfold hdOf
    rcases List.mem_cons.mp hm with rfl | hm
    · simp
    · have : (k.name == h.name) = false := by
        rw [beq_eq_false_iff_ne]; exact fun e => nd.1 (by rw [e]; exact List.mem_map_of_mem hm)
      rw [List.find?_cons, this]
      exact hdOf_mem nd.2 hm
theorem hd_sget : ∀ {hs : List Hd} {n : Str}, n ∈ hs.map (·.name) → ∃ h, h ∈ hs ∧ h.name = n ∧ hdOf hs n = some h ∧ sget (hs.map fun h => (h.name, hv h)) n = some (hv h)
  | k :: hs, n, hm => by
    by_cases q : k.name = n
    · exact ⟨k, .head _, q, by simp [hdOf, q], by simp [sget, q]⟩
    · rw [List.map_cons] at hm
      rcases List.mem_cons.mp hm with e | hm
      · exact absurd e.symm q
      · obtain ⟨h, h1, h2, h3, h4⟩ := hd_sget hm
        have q' : (k.name == n) = false := beq_eq_false_iff_ne.mpr q
        refine ⟨h, .tail _ h1, h2, by unfold hdOf; rw [List.find?_cons, q']; exact h3, ?_⟩
        unfold sget at h4 ⊢
        simp only [List.map_cons, List.find?_cons, q, decide_false]
        exact h4
theorem sput_new : ∀ {hs : List Hd} {h : Hd}, h.name ∉ hs.map (·.name) → sput (hs.map fun h => (h.name, hv h)) h.name (hv h) = (hs ++ [h]).map fun h => (h.name, hv h)
  | [], h, _ => rfl
  | k :: hs, h, hn => by
    simp only [List.map_cons, List.mem_cons, not_or] at hn
    simp only [List.map_cons, List.cons_append, sput, hn.1, if_false]
    exact congrArg _ (sput_new hn.2)
theorem beq_swap (a b : Str) : (a == b) = (b == a) := by
  rw [Bool.eq_iff_iff]; simp only [beq_iff_eq]; exact ⟨Eq.symm, Eq.symm⟩
theorem CmpWP.inT2 {x a b : Str} {Q : V → Store → Prop} (hu : A.units < 9000) (hx : PyData.strOk x = true) (ha : PyData.strOk a = true) (hb : PyData.strOk b = true) (h : Q (.bool ((a == x) || (b == x))) σ) : CmpWP C A .In (.str x) (.tup [.str a, .str b]) σ Q X := by
  refine CmpWP.inT (d := .str x) (ds := [.str a, .str b]) (.str _) (.cons (.str _) (.cons (.str _) .nil)) (by simpa [PyData.canLay0] using hx) (by simp [PyData.canLayAll0, PyData.canLay0, ha, hb]) (by simp only [PyData.depthAll, PyData.depth, cLine]; (first | lia | omega)) ?_
  have e : ([PyData.str a, PyData.str b].any fun y => PyData.eqv y (.str x)) = ((a == x) || (b == x)) := by simp [PyData.eqv]
  rw [e]; exact h
theorem c_hearers (hK : C.K = KL C.w.params) (hB : BMod C) (Cd : CodeHd C.h₀ 142 140) {hl nl : Addr} {hs : List Hd} {ns : List Str} {w : Str} {Q : V → Store → Prop} (hr : A.depth + 1 < recursionLimit) (hh : A.handled = none) (hu : A.units < 8000)
    (hP : σ 140 = some (.tab ⟨85, 29, 85, 58⟩ (Str.ofString "hearers" ++ Str.ofString ".<locals>." ++ Str.ofString "<lambda>"))) (h1 : σ hl = some (.list (hs.map hv))) (h2 : σ nl = some (.list (ns.map V.str))) (nd : (hs.map (·.name)).Nodup) (hsub : ∀ n ∈ ns, n ∈ hs.map (·.name)) (hz : hs.length ≤ 60) (hz2 : ns.length < 64)
    (hok : ∀ h ∈ hs, PyData.strOk h.hears = true) (hw : PyData.strOk w = true)
    (h : ∀ (a : Addr) (σ' : Store) (out : List Str), Grow σ σ' → σ a = none → Heard hs ns w out → σ' a = some (.list (out.map V.str)) → Q (.ref a) σ') : CallWP C A (.ref 143) [.ref hl, .ref nl, .str w] σ Q X := by
  have hr0 : A.depth < recursionLimit := by (first | lia | omega)
  k_extra "mdef3"
  intro L A' a1 a2 a3
  have hh' : A'.handled = none := a1.trans hh
  have hr' : A'.depth < recursionLimit := by rw [a2]; exact hr
  have hu' : A'.units < 9000 := by rw [a3]; (first | lia | omega)
  repeat k_extra "m"
  refine Ev.dict0 fun d hd => ?_
  repeat k_extra "m"
  refine ⟨_, _, ItV.list hh' (.inl (Store.at_fresh hd h1)), ?_⟩
  refine ForL.inv hv (fun rest ρ σ1 => ∃ done, done ++ rest = hs ∧ Grow σ σ1 ∧ σ1 d = some (.sd (done.map fun h => (h.name, hv h))) ∧ ρ.get "by_name" = some (.ref d) ∧ ρ.get "names" = some (.ref nl) ∧ ρ.get "word" = some (.str w)) ?_ ?_ _ _ _ ⟨[], rfl, Grow.rfl'.upd hd, Store.hit, by k_extra "mget", by k_extra "mget", by k_extra "mget"⟩
  · rintro x rest ρ σ1 ⟨done, e, g, gd, r1, r2, r3⟩
    have hnew : x.name ∉ done.map (·.name) := by
      rw [← e, List.map_append, List.nodup_append] at nd
      exact fun hm => nd.2.2 _ hm _ (by simp) rfl
    have hlen : done.length ≤ 60 := by rw [← e] at hz; simp at hz; (first | lia | omega)
    simp only [hv]
    repeat k_extra "m"
    refine SetWP.sd gd (by simp only [List.length_map, sizeLine_eq]; (first | lia | omega)) ?_
    have e2 := sput_new hnew
    simp only [hv] at e2 ⊢
    rw [e2]
    repeat k_extra "m"
    refine ⟨.inl ?_, done ++ [x], by rw [← e]; simp, g.upd hd, Store.hit, by k_extra "mget", by k_extra "mget", by k_extra "mget"⟩
    exact (g.upd hd) _ _ h1
  rintro ρ σ1 ⟨done, e, g, gd, r1, r2, r3⟩
  rw [List.append_nil] at e
  subst e
  have h2' := g _ _ h2
  repeat k_extra "m"
  refine ⟨_, _, ItV.list hh' (.inl h2'), fun L' => ?_⟩
  have look : ∀ n ∈ ns, ∃ x, x ∈ done ∧ hdOf done n = some x ∧ sget (done.map fun h => (h.name, hv h)) n = some (.tup [.str x.name, .int x.rank, .str x.hears, .bool x.once, x.deeds]) := fun n hn => by
    obtain ⟨x, x1, x2, x3, x4⟩ := hd_sget (hsub n hn)
    exact ⟨x, x1, x3, x4⟩
  refine CmpL.pure (fun y => match y with | .str n => (hrs done n == Str.ofString "") || (hrs done n == w) | _ => false) id (.inl h2') _ _ ?_ ?_ (by simp [sizeLine_eq]; (first | lia | omega)) ?_
  · intro y hy Q hQ
    obtain ⟨n, hn, rfl⟩ := List.mem_map.mp hy
    obtain ⟨x, x1, x3, x4⟩ := look n hn
    repeat k_extra "m"
    refine CmpWP.inT2 hu' (hok x x1) (strOk_ofString _) hw ?_
    repeat k_extra "m"
    have e3 : hrs done n = x.hears := by unfold hrs; rw [x3]; rfl
    have e4 : ((Str.ofString "" == x.hears) || (w == x.hears)) = ((hrs done n == Str.ofString "") || (hrs done n == w)) := by
      rw [e3, beq_swap (Str.ofString "") x.hears, beq_swap w x.hears]
    rw [e4]; exact hQ
  · intro y hy _ Q hQ
    repeat k_extra "m"
    exact hQ
  intro fa hfa
  have ef : ([] : List V) ++ List.map id (List.filter (fun y => match y with | .str n => (hrs done n == Str.ofString "") || (hrs done n == w) | _ => false) (ns.map V.str)) = (foundF done ns w).map V.str := by
    rw [List.nil_append, List.map_id, List.filter_map]; rfl
  rw [ef]
  repeat k_extra "m"
  refine Ev.sortLam Cd hB hr' (by decide +kernel) (by k_extra "mK") (by k_extra "mcapt") rfl (fun _ _ _ _ _ => rfl) rfl rfl rfl (by decide +kernel) (by decide +kernel) (by kernel_rfl) (by kernel_rfl) (by kernel_rfl) ?_
  repeat k_extra "m"
  have hfl : (foundF done ns w).length ≤ ns.length := List.length_filter_le ..
  refine ⟨fa, _, (fun v => match v with | .str n => rk done n | _ => 0), rfl, .inl Store.hit, by simp; (first | lia | omega), Store.at_fresh hfa (g _ _ hP), ?_, ?_⟩
  · intro x hx L2 f2 cdv A2 b1 b2
    have hh2 : A2.handled = none := b1.trans hh'
    obtain ⟨n, hn, rfl⟩ := List.mem_map.mp hx
    obtain ⟨x, x1, x3, x4⟩ := look n (List.mem_filter.mp hn).1
    repeat k_extra "m"
    exact ⟨rfl, by simp [rk, x3]⟩
  · intro a p ha hp hs
    obtain ⟨q1, ha0⟩ := Store.none_ne ha
    have e5 : ∀ i, ((foundF done ns w).map V.str).getD i V.none = if i < (foundF done ns w).length then V.str ((foundF done ns w).getD i Str.empty) else V.none := fun i => by
      split
      · rename_i hi; simp [hi]
      · rename_i hi; simp [Nat.le_of_not_lt hi]
    have hb : ∀ i ∈ p, i < (foundF done ns w).length := fun i hi => by simpa using hp.mem_iff.mp hi
    refine h a _ (p.map fun i => (foundF done ns w).getD i Str.empty) ((g.upd (g.none hfa)).upd (g.none ha0)) (g.none ha0) ⟨p, by simpa using hp, ?_, rfl⟩ ?_
    · refine hs.imp_of_mem fun {i j} hi hj z => ?_
      unfold slt at z ⊢
      dsimp only at z ⊢
      rw [e5, e5, if_pos (hb i hi), if_pos (hb j hj)] at z
      exact z
    · rw [Store.hit, List.map_map]
      congr 2
      refine List.map_congr_left fun i hi => ?_
      rw [e5, if_pos (hb i hi)]; rfl

/- the loom, as data -/
inductive Deed where
  | now (w : Str) | soon (w : Str) | wait (t : Int) (w : Str) | cancel (w : Str) | join (n : Str) | leave (n : Str) | hush
def Deed.v : Deed → V
  | .now w => .tup [.str (Str.ofString "now"), .str w]
  | .soon w => .tup [.str (Str.ofString "soon"), .str w]
  | .wait t w => .tup [.str (Str.ofString "wait"), .int t, .str w]
  | .cancel w => .tup [.str (Str.ofString "cancel"), .str w]
  | .join n => .tup [.str (Str.ofString "join"), .str n]
  | .leave n => .tup [.str (Str.ofString "leave"), .str n]
  | .hush => .tup [.str (Str.ofString "hush")]
structure Hn where
  name : Str
  rank : Int
  hears : Str
  once : Bool
  ds : List Deed
def Hn.hd (h : Hn) : Hd := ⟨h.name, h.rank, h.hears, h.once, .tup (h.ds.map Deed.v)⟩
def optV : Option Int → V
  | none => .none
  | some n => .int n
structure Evt where
  word : Str
  maker : Option Int
  road : Str
  due : Int
def Evt.v (e : Evt) : V := .tup [.str e.word, optV e.maker, .str e.road, .int e.due]
inductive Row where
  | send (n : Int) | beg (n t : Int) | fin (n : Int) | call (n : Int) (h : Str) | cancel (n : Int) (ns : List Int) | join (n : Int) (h : Str) | leave (n : Int) (h : Str) | hush (n : Int) | make (m n : Int)
def Row.v : Row → V
  | .send n => .tup [.str (Str.ofString "send"), .int n]
  | .beg n t => .tup [.str (Str.ofString "begin"), .int n, .int t]
  | .fin n => .tup [.str (Str.ofString "end"), .int n]
  | .call n h => .tup [.str (Str.ofString "call"), .int n, .str h]
  | .cancel n ns => .tup [.str (Str.ofString "cancel"), .int n, .tup (ns.map V.int)]
  | .join n h => .tup [.str (Str.ofString "join"), .int n, .str h]
  | .leave n h => .tup [.str (Str.ofString "leave"), .int n, .str h]
  | .hush n => .tup [.str (Str.ofString "hush"), .int n]
  | .make m n => .tup [.str (Str.ofString "make"), .int m, .int n]
structure Frm where
  num : Int
  calls : List Str
  deeds : List Deed
/-- the innermost frame is the first -/
structure LS where
  posts : List Str
  time : Int
  events : List Evt
  log : List Row
  near : List Int
  far : List (Int × Int)
  frames : List Frm
  fresh : Option Int
/-- where the loom's objects lie -/
structure LA where
  lo : Addr
  d : Addr
  ca : Addr
  po : Addr
  ev : Addr
  lg : Addr
  wa : Addr
  wd : Addr
  ne : Addr
  fa : Addr
  fr : Addr
structure FA where
  f : Addr
  d : Addr
  c : Addr
  e : Addr
abbrev lamQ : Str := Str.ofString "hearers" ++ Str.ofString ".<locals>." ++ Str.ofString "<lambda>"
abbrev tabE : Addr × O := (140, .tab ⟨85, 29, 85, 58⟩ lamQ)
def fpF : List FA → List Frm → List (Addr × O)
  | f :: fs, r :: rs => (f.f, .inst 212 f.d) :: (f.d, .sd [("number", .int r.num), ("calls", .ref f.c), ("deeds", .ref f.e)]) :: (f.c, .list (r.calls.map V.str)) :: (f.e, .list (r.deeds.map Deed.v)) :: fpF fs rs
  | _, _ => []
/-- the loom's objects -/
def fp (a : LA) (fs : List FA) (cast : List Hn) (s : LS) : List (Addr × O) :=
  (a.lo, .inst 322 a.d) ::
  (a.d, .sd [("cast", .ref a.ca), ("posts", .ref a.po), ("time", .int s.time), ("events", .ref a.ev), ("log", .ref a.lg), ("waits", .ref a.wa), ("frames", .ref a.fr), ("fresh", optV s.fresh)]) ::
  (a.ca, .list ((cast.map Hn.hd).map hv)) ::
  (a.po, .list (s.posts.map V.str)) ::
  (a.ev, .list (s.events.map Evt.v)) ::
  (a.lg, .list (s.log.map Row.v)) ::
  (a.wa, .inst 191 a.wd) ::
  (a.wd, .sd [("near", .ref a.ne), ("far", .ref a.fa)]) ::
  (a.ne, .list (s.near.map V.int)) ::
  (a.fa, .list (s.far.map pv)) ::
  (a.fr, .list ((fs.map fun f => V.ref f.f).reverse)) ::
  fpF fs s.frames
/-- the loom stands at a, with its frames at fs; beside it stand the tables of codes and what the caller has -/
structure LAt (σ : Store) (a : LA) (fs : List FA) (cast : List Hn) (s : LS) (rest : List (Addr × O)) : Prop where
  led : Led σ (tabE :: (fp a fs cast s ++ rest))
  len : fs.length = s.frames.length
section
variable {a : LA} {fs : List FA} {cast : List Hn} {s : LS} {rest : List (Addr × O)}
theorem LAt.wat (L : LAt σ a fs cast s rest) : WAt σ a.wa a.wd a.ne a.fa s.near s.far :=
  ⟨L.led.get 7 rfl, L.led.get 8 rfl, L.led.get 9 rfl, L.led.get 10 rfl, L.led.ne 9 10 rfl rfl (by decide)⟩
theorem LAt.grow {σ' : Store} (L : LAt σ a fs cast s rest) (g : Grow σ σ') : LAt σ' a fs cast s rest := ⟨L.led.grow g, L.len⟩
theorem LAt.log (L : LAt σ a fs cast s rest) (r : Row) : LAt (σ.upd a.lg (.list ((s.log ++ [r]).map Row.v))) a fs cast { s with log := s.log ++ [r] } rest := ⟨L.led.set 6 _ rfl, L.len⟩
theorem LAt.events (L : LAt σ a fs cast s rest) (e : Evt) : LAt (σ.upd a.ev (.list ((s.events ++ [e]).map Evt.v))) a fs cast { s with events := s.events ++ [e] } rest := ⟨L.led.set 5 _ rfl, L.len⟩
theorem LAt.posts (L : LAt σ a fs cast s rest) (ps : List Str) : LAt (σ.upd a.po (.list (ps.map V.str))) a fs cast { s with posts := ps } rest := ⟨L.led.set 4 _ rfl, L.len⟩
theorem LAt.near (L : LAt σ a fs cast s rest) (ns : List Int) : LAt (σ.upd a.ne (.list (ns.map V.int))) a fs cast { s with near := ns } rest := ⟨L.led.set 9 _ rfl, L.len⟩
theorem LAt.far (L : LAt σ a fs cast s rest) (ps : List (Int × Int)) : LAt (σ.upd a.fa (.list (ps.map pv))) a fs cast { s with far := ps } rest := ⟨L.led.set 10 _ rfl, L.len⟩
theorem LAt.time (L : LAt σ a fs cast s rest) (t : Int) : LAt (σ.upd a.d (.sd [("cast", .ref a.ca), ("posts", .ref a.po), ("time", .int t), ("events", .ref a.ev), ("log", .ref a.lg), ("waits", .ref a.wa), ("frames", .ref a.fr), ("fresh", optV s.fresh)])) a fs cast { s with time := t } rest := ⟨L.led.set 2 _ rfl, L.len⟩
theorem LAt.fresh (L : LAt σ a fs cast s rest) (f : Option Int) : LAt (σ.upd a.d (.sd [("cast", .ref a.ca), ("posts", .ref a.po), ("time", .int s.time), ("events", .ref a.ev), ("log", .ref a.lg), ("waits", .ref a.wa), ("frames", .ref a.fr), ("fresh", optV f)])) a fs cast { s with fresh := f } rest := ⟨L.led.set 2 _ rfl, L.len⟩
end

theorem c_whole (hK : C.K = KL C.w.params) {x : V} {t : Ty} {Q : V → Store → Prop} (hr : A.depth < recursionLimit) (ht : HasTy C σ x t) (h : Q (.bool (isiB t "int" && !isiB t "bool")) σ) : CallWP C A (.ref 101) [x] σ Q X := by
  k_extra "mdef1"
  intro L A' a1 a2 a3
  repeat k_extra "m"
  refine isi_t ht (by decide) rfl ?_
  k_extra "m"
  cases q : isiB t "int" with
  | false =>
    rw [q] at h
    repeat k_extra "m"
    exact h
  | true =>
    rw [q] at h
    repeat k_extra "m"
    refine isi_t ht (by decide) rfl ?_
    repeat k_extra "m"
    exact h
def okS (x : Str) : Bool := (x.cps.toList.map fun c => inS (Str.ofString "abcdefghijklmnopqrstuvwxyz") ⟨#[c]⟩).all id
def isW (x : Str) : Bool := (decide (1 ≤ x.length) && decide (x.length ≤ 12)) && okS x
def inAbc : V → V
  | .str c => .bool (inS (Str.ofString "abcdefghijklmnopqrstuvwxyz") c)
  | _ => .none
theorem signs_map {x : Str} : ([] : List V) ++ List.map inAbc (List.filter (fun _ => true) (signsV x)) = (x.cps.toList.map fun c => inS (Str.ofString "abcdefghijklmnopqrstuvwxyz") ⟨#[c]⟩).map V.bool := by
  rw [List.nil_append, List.filter_eq_self.mpr (fun _ _ => rfl), signsV, List.map_map, List.map_map]; rfl
theorem c_isw (hK : C.K = KL C.w.params) {x : Str} {Q : V → Store → Prop} (hr : A.depth < recursionLimit) (hh : A.handled = none) (hz : x.length ≤ 1000) (h : ∀ σ', Grow σ σ' → Q (.bool (isW x)) σ') : CallWP C A (.ref 106) [.str x] σ Q X := by
  k_extra "mdef1"
  intro L A' a1 a2 a3
  have hh' : A'.handled = none := a1.trans hh
  repeat k_extra "m"
  refine CallWP.len_str (by (first | lia | omega)) ?_
  repeat k_extra "m"
  by_cases q1 : 1 ≤ x.length
  · refine Br.t (by simp; (first | lia | omega)) ?_
    repeat k_extra "m"
    by_cases q2 : x.length ≤ 12
    · have e : isW x = okS x := by simp [isW, q1, q2]
      rw [e] at h
      refine Br.f (by simp; (first | lia | omega)) ?_
      repeat k_extra "m"
      refine ⟨_, _, ItV.str hh', fun L' => ?_⟩
      refine CmpL.pure (fun _ => true) inAbc trivial _ _ ?_ ?_ (by simp [signsV, sizeLine_eq]; simp only [Str.length] at hz; (first | lia | omega)) ?_
      · intro y hy Q hQ
        repeat k_extra "m"
        exact hQ
      · intro y hy _ Q hQ
        obtain ⟨c, hc, rfl⟩ := List.mem_map.mp hy
        repeat k_extra "m"
        exact hQ
      intro a ha
      rw [signs_map]
      repeat k_extra "m"
      refine CallWP.all hh' (.inl Store.hit) ?_
      repeat k_extra "m"
      exact h _ (Grow.rfl'.fresh ha)
    · have e : isW x = false := by simp [isW, q2]
      rw [e] at h
      refine Br.t (by simp; (first | lia | omega)) ?_
      repeat k_extra "m"
      exact h _ Grow.rfl'
  · have e : isW x = false := by simp [isW, q1]
    rw [e] at h
    refine Br.f (by simp; (first | lia | omega)) ?_
    repeat k_extra "m"
    exact h _ Grow.rfl'
theorem c_need (hK : C.K = KL C.w.params) {x : Str} {Q : V → Store → Prop} (hr : A.depth + 1 < recursionLimit) (hh : A.handled = none) (hz : x.length ≤ 1000) (hx : isW x = true) (h : ∀ σ', Grow σ σ' → Q (.str x) σ') : CallWP C A (.ref 113) [.str x] σ Q X := by
  have hr1 : A.depth < recursionLimit := by (first | lia | omega)
  k_extra "mdef1"
  intro L A' a1 a2 a3
  have hh' : A'.handled = none := a1.trans hh
  have hr' : A'.depth < recursionLimit := by (first | lia | omega)
  repeat k_extra "m"
  refine c_isw hK hr' hh' hz fun σ' g => ?_
  rw [hx]
  repeat k_extra "m"
  exact h _ g

structure LS.Small (s : LS) : Prop where
  po : s.posts.length ≤ 60
  ev : s.events.length ≤ 9000
  lg : s.log.length ≤ 9000
  ne : s.near.length ≤ 9000
  fa : s.far.length ≤ 9000
  fr : s.frames.length ≤ 9000
def LS.send (s : LS) (w : Str) : LS :=
  { s with events := s.events ++ [⟨w, none, Str.ofString "wait", s.time⟩], far := s.far ++ [(s.time, (s.events.length : Int))], log := s.log ++ [.send s.events.length] }
theorem c_send (hK : C.K = KL C.w.params) {a : LA} {fs : List FA} {cast : List Hn} {s : LS} {rest : List (Addr × O)} {w : Str} {Q : V → Store → Prop} (hr : A.depth + 2 < recursionLimit) (hh : A.handled = none) (L : LAt σ a fs cast s rest) (Z : s.Small) (hw : isW w = true) (hwl : w.length ≤ 1000)
    (h : ∀ σ', LAt σ' a fs cast (s.send w) rest → Q (.int s.events.length) σ') : CallWP C A (.ref 237) [.ref a.lo, .str w] σ Q X := by
  have hr0 : A.depth < recursionLimit := by (first | lia | omega)
  have g1 := L.led.get 1 rfl
  have g2 := L.led.get 2 rfl
  have g5 := L.led.get 5 rfl
  have z1 := Z.ev
  have z2 := Z.lg
  have z3 := Z.fa
  k_extra "mdef2"
  intro fL A' a1 a2 a3
  have hh' : A'.handled = none := a1.trans hh
  have hr' : A'.depth + 1 < recursionLimit := by (first | lia | omega)
  have hr2 : A'.depth < recursionLimit := by (first | lia | omega)
  repeat k_extra "m"
  refine c_need hK hr' hh' hwl hw fun σ1 gr => ?_
  have L1 := L.grow gr
  have g1 := L1.led.get 1 rfl
  have g2 := L1.led.get 2 rfl
  have g5 := L1.led.get 5 rfl
  repeat k_extra "m"
  generalize hσ : Store.upd σ1 a.ev _ = σ2
  have L2 : LAt σ2 a fs cast { s with events := s.events ++ [⟨w, none, Str.ofString "wait", s.time⟩] } rest := by
    rw [← hσ]; simpa [Evt.v, optV] using L1.events ⟨w, none, Str.ofString "wait", s.time⟩
  have g1 := L2.led.get 1 rfl
  have g2 := L2.led.get 2 rfl
  have g7 := L2.led.get 7 rfl
  have g8 := L2.led.get 8 rfl
  repeat k_extra "m"
  refine c_later hK hr2 hh' L2.wat (by simp; (first | lia | omega)) ?_
  have L3 := L2.far (s.far ++ [(s.time, ((s.events.map Evt.v).length : Int))])
  dsimp only
  generalize hσ3 : Store.upd σ2 a.fa _ = σ3 at L3 ⊢
  have g1 := L3.led.get 1 rfl
  have g2 := L3.led.get 2 rfl
  have g6 := L3.led.get 6 rfl
  dsimp only at g6
  repeat k_extra "m"
  show Q (V.int _) _
  rw [List.length_map]
  refine h _ ?_
  simpa [LS.send, Row.v] using L3.log (.send s.events.length)

theorem c_Frame (hK : C.K = KL C.w.params) {n : Int} {c : Addr} {Q : V → Store → Prop} (hr : A.depth + 1 < recursionLimit) (hh : A.handled = none)
    (h : ∀ f d e σ', Grow σ σ' → σ f = none → σ d = none → σ e = none → f ≠ d → f ≠ e → d ≠ e → σ' f = some (.inst 212 d) → σ' d = some (.sd [("number", .int n), ("calls", .ref c), ("deeds", .ref e)]) → σ' e = some (.list []) → Q (.ref f) σ') : CallWP C A (.ref 212) [.int n, .ref c] σ Q X := by
  refine CallWP.cls (by k_extra "mK") (by k_extra "mK") (by k_extra "mK") fun w dx A1 hw hd hne h1 h2 h3 => ?_
  have hr1 : A1.depth < recursionLimit := by rw [h2]; exact hr
  k_extra "mdefC3"
  intro L A' a1 a2 a3
  have hh' : A'.handled = none := (a1.trans h1).trans hh
  have hne' : dx ≠ w := Ne.symm hne
  repeat k_extra "m"
  intro e he
  obtain ⟨q1, he0⟩ := Store.none_ne he
  obtain ⟨q2, he0⟩ := Store.none_ne he0
  obtain ⟨q3, he0⟩ := Store.none_ne he0
  obtain ⟨q4, he0⟩ := Store.none_ne he0
  repeat k_extra "m"
  refine h w dx e _ ?_ hw hd he0 hne (Ne.symm q3) (Ne.symm q1) ?_ ?_ ?_
  · exact (((((Grow.rfl'.upd hd).upd hw).upd hd).upd hd).upd he0).upd hd
  · k_extra "mst"
  · k_extra "mst"
  · k_extra "mst"
theorem LAt.push {a : LA} {fs : List FA} {cast : List Hn} {s : LS} {rest : List (Addr × O)} {f d c x : Addr} {n : Int} {out : List Str} (hl : fs.length = s.frames.length)
    (M : Led σ ((f, .inst 212 d) :: (d, .sd [("number", .int n), ("calls", .ref c), ("deeds", .ref x)]) :: (c, .list (out.map V.str)) :: (x, .list []) :: tabE :: (fp a fs cast s ++ rest))) :
    LAt (σ.upd a.fr (.list ((fs.map fun f => V.ref f.f).reverse ++ [.ref f]))) a (⟨f, d, c, x⟩ :: fs) cast { s with frames := ⟨n, out, []⟩ :: s.frames } rest := by
  refine ⟨?_, by simp [hl]⟩
  have M1 := M.set 15 (.list ((fs.map fun f => V.ref f.f).reverse ++ [.ref f])) rfl
  refine M1.perm ?_
  unfold fp
  simp only [List.map_cons, List.reverse_cons]
  exact List.perm_append_comm_assoc [_, _, _, _, _, _, _, _, _, _, _, _] [_, _, _, _] (fpF fs s.frames ++ rest)
/-- what the walks of the loom lean on -/
structure LC (C : Cx) : Prop where
  hK : C.K = KL C.w.params
  hB : BMod C
  cd : CodeHd C.h₀ 142 140
/-- a cast that stands well -/
structure COk (cast : List Hn) : Prop where
  nd : (cast.map (·.name)).Nodup
  len : cast.length ≤ 60
  hears : ∀ h ∈ cast, PyData.strOk h.hears = true
  name : ∀ h ∈ cast, PyData.strOk h.name = true
theorem COk.nd' {cast : List Hn} (K : COk cast) : ((cast.map Hn.hd).map (·.name)).Nodup := by
  have e : (cast.map Hn.hd).map (·.name) = cast.map (·.name) := by rw [List.map_map]; rfl
  rw [e]; exact K.nd
def LS.begin (s : LS) (n : Int) (out : List Str) : LS := { s with frames := ⟨n, out, []⟩ :: s.frames, log := s.log ++ [.beg n s.time] }
theorem c_begin (E : LC C) {a : LA} {fs : List FA} {cast : List Hn} {s : LS} {rest : List (Addr × O)} {i : Nat} {e : Evt} {Q : V → Store → Prop} (hr : A.depth + 2 < recursionLimit) (hh : A.handled = none) (hu : A.units < 7000) (L : LAt σ a fs cast s rest) (Z : s.Small) (K : COk cast)
    (hsub : ∀ n ∈ s.posts, n ∈ cast.map (·.name)) (hi : s.events[i]? = some e) (hw : PyData.strOk e.word = true)
    (h : ∀ out f σ', Heard (cast.map Hn.hd) s.posts e.word out → LAt σ' a (f :: fs) cast (s.begin i out) rest → Q .none σ') : CallWP C A (.ref 251) [.ref a.lo, .int i] σ Q X := by
  have hK := E.hK
  have hr0 : A.depth < recursionLimit := by (first | lia | omega)
  have g1 := L.led.get 1 rfl
  have g2 := L.led.get 2 rfl
  have g5 := L.led.get 5 rfl
  have z1 := Z.ev
  have hil : i < s.events.length := (List.getElem?_eq_some_iff.mp hi).1
  k_extra "mdef2"
  intro fL A' a1 a2 a3
  have hh' : A'.handled = none := a1.trans hh
  have hr' : A'.depth + 1 < recursionLimit := by (first | lia | omega)
  have hr2 : A'.depth < recursionLimit := by (first | lia | omega)
  repeat k_extra "m"
  refine ItemWP.list (y := Evt.v e) (.inl g5) (by (first | lia | omega)) (by (first | lia | omega)) (by simp [hi]) ?_
  simp only [Evt.v]
  repeat k_extra "m"
  refine c_hearers hK E.hB E.cd hr' hh' (by (first | lia | omega)) (L.led.get 0 rfl) (L.led.get 3 rfl) (L.led.get 4 rfl) K.nd' (fun n hn => by rw [List.map_map]; exact hsub n hn) (by simpa using K.len) (by have := Z.po; (first | lia | omega)) (fun x hx => by obtain ⟨y, hy, rfl⟩ := List.mem_map.mp hx; exact K.hears y hy) hw fun c σ1 out gr hc hH hcl => ?_
  have M1 := L.led.add gr hc hcl
  have g1 := M1.get 2 rfl
  have g2 := M1.get 3 rfl
  have g11 := M1.get 12 rfl
  repeat k_extra "m"
  refine c_Frame hK hr' hh' fun f d x σ2 gr2 hf hd hx n1 n2 n3 s1 s2 s3 => ?_
  have M2 : Led σ2 ((f, .inst 212 d) :: (d, .sd [("number", .int i), ("calls", .ref c), ("deeds", .ref x)]) :: (c, .list (out.map V.str)) :: (x, .list []) :: tabE :: (fp a fs cast s ++ rest)) := by
    refine (Led.perm (l := (f, .inst 212 d) :: (d, .sd [("number", .int i), ("calls", .ref c), ("deeds", .ref x)]) :: (x, .list []) :: (c, .list (out.map V.str)) :: tabE :: (fp a fs cast s ++ rest)) ?_ ((((List.Perm.swap _ _ _).cons _).cons _)))
    exact M1.add3 gr2 hf hd hx n1 n2 n3 s1 s2 s3
  have z2 := Z.fr
  have z3 := L.len
  have g11 := M2.get 15 rfl
  repeat k_extra "m"
  have L3 := LAt.push L.len M2
  generalize hσ3 : Store.upd σ2 a.fr _ = σ3 at L3 ⊢
  have g1 := L3.led.get 1 rfl
  have g2 := L3.led.get 2 rfl
  have g6 := L3.led.get 6 rfl
  have z4 := Z.lg
  dsimp only at g6 g2
  repeat k_extra "m"
  show Q V.none _
  refine h out ⟨f, d, c, x⟩ _ hH ?_
  simpa [LS.begin, Row.v] using L3.log (.beg i s.time)

def LS.make (s : LS) (m : Int) : Deed → LS
  | .now w => { s with events := s.events ++ [⟨w, some m, Str.ofString "now", s.time⟩], fresh := some (s.events.length : Int), log := s.log ++ [.make m s.events.length] }
  | .soon w => { s with events := s.events ++ [⟨w, some m, Str.ofString "soon", s.time⟩], near := s.near ++ [(s.events.length : Int)], log := s.log ++ [.make m s.events.length] }
  | .wait t w => { s with events := s.events ++ [⟨w, some m, Str.ofString "wait", s.time + t⟩], far := s.far ++ [(s.time + t, (s.events.length : Int))], log := s.log ++ [.make m s.events.length] }
  | _ => s
theorem fpF_append {f : FA} {r : Frm} : ∀ {fs1 fs2 : List FA} {fr1 fr2 : List Frm}, fs1.length = fr1.length → fpF (fs1 ++ f :: fs2) (fr1 ++ r :: fr2) = fpF fs1 fr1 ++ fpF (f :: fs2) (r :: fr2)
  | [], _, [], _, _ => rfl
  | g :: fs1, fs2, q :: fr1, fr2, h => by
    show _ :: _ :: _ :: _ :: fpF (fs1 ++ f :: fs2) (fr1 ++ r :: fr2) = _
    rw [fpF_append (by simpa using h)]
    rfl
theorem LAt.split {a : LA} {fs1 fs2 : List FA} {f : FA} {cast : List Hn} {s : LS} {fr1 fr2 : List Frm} {r : Frm} {rest : List (Addr × O)} (hl : fs1.length = fr1.length) (hf : s.frames = fr1 ++ r :: fr2) :
    tabE :: (fp a (fs1 ++ f :: fs2) cast s ++ rest) = (tabE :: (fp a (fs1 ++ f :: fs2) cast { s with frames := [] } ++ fpF fs1 fr1)) ++ (fpF (f :: fs2) (r :: fr2) ++ rest) := by
  unfold fp
  rw [hf, fpF_append hl]
  simp [fpF]
theorem LAt.frame {a : LA} {fs1 fs2 : List FA} {f : FA} {cast : List Hn} {s : LS} {fr1 fr2 : List Frm} {r : Frm} {rest : List (Addr × O)} (hl : fs1.length = fr1.length) (hf : s.frames = fr1 ++ r :: fr2) (L : LAt σ a (fs1 ++ f :: fs2) cast s rest) :
    σ f.f = some (.inst 212 f.d) ∧ σ f.d = some (.sd [("number", .int r.num), ("calls", .ref f.c), ("deeds", .ref f.e)]) ∧ σ f.c = some (.list (r.calls.map V.str)) ∧ σ f.e = some (.list (r.deeds.map Deed.v)) := by
  have M := L.led
  rw [LAt.split hl hf] at M
  exact ⟨M.at_ (f.f, _) (by simp [fpF]), M.at_ (f.d, _) (by simp [fpF]), M.at_ (f.c, _) (by simp [fpF]), M.at_ (f.e, _) (by simp [fpF])⟩
theorem LAt.calls {a : LA} {fs1 fs2 : List FA} {f : FA} {cast : List Hn} {s : LS} {fr1 fr2 : List Frm} {r : Frm} {rest : List (Addr × O)} (hl : fs1.length = fr1.length) (hf : s.frames = fr1 ++ r :: fr2) (L : LAt σ a (fs1 ++ f :: fs2) cast s rest) (cs : List Str) :
    LAt (σ.upd f.c (.list (cs.map V.str))) a (fs1 ++ f :: fs2) cast { s with frames := fr1 ++ { r with calls := cs } :: fr2 } rest := by
  obtain ⟨M, l⟩ := L
  refine ⟨?_, by rw [l, hf]; simp⟩
  rw [LAt.split hl hf] at M
  rw [LAt.split hl rfl]
  have e : ∀ r : Frm, (tabE :: (fp a (fs1 ++ f :: fs2) cast { s with frames := [] } ++ fpF fs1 fr1)) ++ (fpF (f :: fs2) (r :: fr2) ++ rest)
      = ((tabE :: (fp a (fs1 ++ f :: fs2) cast { s with frames := [] } ++ fpF fs1 fr1)) ++ [(f.f, .inst 212 f.d), (f.d, .sd [("number", .int r.num), ("calls", .ref f.c), ("deeds", .ref f.e)])]) ++ (f.c, .list (r.calls.map V.str)) :: ((f.e, .list (r.deeds.map Deed.v)) :: (fpF fs2 fr2 ++ rest)) := fun r => by
    simp [fpF]
  rw [e] at M ⊢
  exact M.setS _
theorem strs_any (ns : List Str) (x : Str) : ((ns.map PyData.str).any fun y => PyData.eqv y (.str x)) = ns.contains x := by
  rw [Bool.eq_iff_iff]
  simp [PyData.eqv]
theorem CmpWP.inStrs {l : Addr} {ns : List Str} {x : Str} {Q : V → Store → Prop} (hu : A.units < 9000) (hl : σ l = some (.list (ns.map V.str))) (hx : PyData.strOk x = true) (hn : ∀ n ∈ ns, PyData.strOk n = true) (h : Q (.bool (ns.contains x)) σ) : CmpWP C A .In (.str x) (.ref l) σ Q X := by
  refine CmpWP.inL (ds := ns.map PyData.str) (.inl hl) (.str _) (DRs.map fun _ _ => .str _) (by simpa [PyData.canLay0] using hx) (canLayAll_map fun y hy => by simpa [PyData.canLay0] using hn y hy) (by simp only [PyData.depth, cLine]; (first | lia | omega)) ?_
  rw [strs_any]; exact h
theorem CmpWP.notInStrs {l : Addr} {ns : List Str} {x : Str} {Q : V → Store → Prop} (hu : A.units < 9000) (hl : σ l = some (.list (ns.map V.str))) (hx : PyData.strOk x = true) (hn : ∀ n ∈ ns, PyData.strOk n = true) (h : Q (.bool (!ns.contains x)) σ) : CmpWP C A .NotIn (.str x) (.ref l) σ Q X := by
  refine CmpWP.notInL (ds := ns.map PyData.str) (.inl hl) (.str _) (DRs.map fun _ _ => .str _) (by simpa [PyData.canLay0] using hx) (canLayAll_map fun y hy => by simpa [PyData.canLay0] using hn y hy) (by simp only [PyData.depth, cLine]; (first | lia | omega)) ?_
  rw [strs_any]; exact h
theorem idx_strs (x : Str) : ∀ (l : List Str), x ∈ l → (l.map PyData.str).findIdx? (fun y => PyData.eqv y (.str x)) = some (l.idxOf x)
  | q :: l, h => by
    rw [List.map_cons, List.findIdx?_cons, List.idxOf_cons]
    have e : PyData.eqv (.str q) (.str x) = (q == x) := by simp [PyData.eqv]
    rw [e]
    cases z : q == x with
    | true => rfl
    | false =>
      have : x ∈ l := by
        rcases List.mem_cons.mp h with w | w
        · rw [w] at z; simp at z
        · exact w
      simp [idx_strs x l this]
theorem CallWP.removeStr {l : Addr} {ns : List Str} {x : Str} {Q : V → Store → Prop} (hu : A.units < 9000) (hl : σ l = some (.list (ns.map V.str))) (hx : PyData.strOk x = true) (hn : ∀ n ∈ ns, PyData.strOk n = true) (hz : ns.length ≤ 10000) (hm : x ∈ ns)
    (h : Q .none (σ.upd l (.list ((ns.erase x).map V.str)))) : CallWP C A (.builtin "list.remove") [.ref l, .str x] σ Q X := by
  refine CallWP.remove (d := .str x) hl (.str _) (DRs.map (g := PyData.str) fun _ _ => .str _) (by simpa [PyData.canLay0] using hx) (canLayAll_map fun y hy => by simpa [PyData.canLay0] using hn y hy) (by simp only [PyData.depth, cLine]; (first | lia | omega)) (by simp [sizeLine_eq]; (first | lia | omega)) (idx_strs x ns hm) ?_
  have e : List.eraseIdx (ns.map V.str) (ns.idxOf x) = (ns.erase x).map V.str := by
    rw [List.erase_eq_eraseIdx_of_idxOf rfl, eraseIdx_map']
  rw [e]; exact h
def Frm.away (n : Str) (r : Frm) : Frm := { r with calls := r.calls.erase n }
def LS.away (s : LS) (n : Str) : LS := { s with posts := s.posts.erase n, frames := s.frames.map (Frm.away n) }
structure LS.Names (s : LS) : Prop where
  po : ∀ n ∈ s.posts, PyData.strOk n = true
  fr : ∀ r ∈ s.frames, r.calls.length ≤ 10000 ∧ ∀ n ∈ r.calls, PyData.strOk n = true
theorem c_away (hK : C.K = KL C.w.params) {a : LA} {fs : List FA} {cast : List Hn} {s : LS} {rest : List (Addr × O)} {n : Str} {Q : V → Store → Prop} (hr : A.depth < recursionLimit) (hh : A.handled = none) (hu : A.units < 7000) (L : LAt σ a fs cast s rest) (Z : s.Small) (N : s.Names) (hn : PyData.strOk n = true)
    (h : ∀ σ', LAt σ' a fs cast (s.away n) rest → Q .none σ') : CallWP C A (.ref 272) [.ref a.lo, .str n] σ Q X := by
  have g1 := L.led.get 1 rfl
  have g2 := L.led.get 2 rfl
  have g4 := L.led.get 4 rfl
  have z1 := Z.po
  k_extra "mdef2"
  intro fL A' a1 a2 a3
  have hh' : A'.handled = none := a1.trans hh
  have hu' : A'.units < 9000 := by (first | lia | omega)
  refine Exs.cut (fun ρ σ1 => ρ.get "self" = some (.ref a.lo) ∧ ρ.get "name" = some (.str n) ∧ LAt σ1 a fs cast { s with posts := s.posts.erase n } rest) ?_ ?_
  · repeat k_extra "m"
    refine CmpWP.inStrs hu' g4 hn N.po ?_
    repeat k_extra "m"
    cases hc : s.posts.contains n with
    | true =>
      refine Br.t rfl ?_
      repeat k_extra "m"
      refine CallWP.removeStr hu' g4 hn N.po (by (first | lia | omega)) (by simpa using hc) ?_
      repeat k_extra "m"
      exact ⟨rfl, by k_extra "mget", by k_extra "mget", L.posts _⟩
    | false =>
      refine Br.f rfl ?_
      repeat k_extra "m"
      refine ⟨rfl, by k_extra "mget", by k_extra "mget", ?_⟩
      have e : s.posts.erase n = s.posts := List.erase_of_not_mem (by simpa using hc)
      rw [e]; exact L
  rintro ρ σ1 ⟨r1, r2, L1⟩
  have g1 := L1.led.get 1 rfl
  have g2 := L1.led.get 2 rfl
  have g11 := L1.led.get 11 rfl
  repeat k_extra "m"
  refine ⟨_, _, ItV.list hh' (.inl g11), ?_⟩
  have eE : (fs.map fun f => V.ref f.f).reverse = ((fs.zip s.frames).reverse).map fun p => V.ref p.1.f := by
    rw [List.map_reverse]
    congr 1
    have : (fs.zip s.frames).map (fun p => V.ref p.1.f) = ((fs.zip s.frames).map Prod.fst).map fun f => V.ref f.f := by rw [List.map_map]; rfl
    rw [this, List.map_fst_zip (by rw [L.len]; exact Nat.le_refl _)]
  rw [eE]
  refine ForL.inv (fun p : FA × Frm => V.ref p.1.f) (fun xs ρ σ1 => ∃ fs1 fs2 fr1 fr2, fs = fs1 ++ fs2 ∧ s.frames = fr1 ++ fr2 ∧ fs1.length = fr1.length ∧ xs = (fs1.zip fr1).reverse ∧ ρ.get "self" = some (.ref a.lo) ∧ ρ.get "name" = some (.str n) ∧
    LAt σ1 a fs cast { s with posts := s.posts.erase n, frames := fr1 ++ fr2.map (Frm.away n) } rest) ?_ ?_ _ _ _ ⟨fs, [], s.frames, [], by simp, by simp, L.len, rfl, r1, r2, by simpa using L1⟩
  · rintro ⟨f, r⟩ xs ρ σ1 ⟨fs1, fs2, fr1, fr2, e1, e2, e3, e4, r1, r2, L1⟩
    obtain ⟨fs1', f', rfl⟩ : ∃ fs1' f', fs1 = fs1' ++ [f'] := by
      rcases List.eq_nil_or_concat fs1 with rfl | ⟨p, q, e⟩
      · simp at e4
      · exact ⟨p, q, by simpa using e⟩
    obtain ⟨fr1', r', rfl⟩ : ∃ fr1' r', fr1 = fr1' ++ [r'] := by
      rcases List.eq_nil_or_concat fr1 with rfl | ⟨p, q, e⟩
      · simp at e3
      · exact ⟨p, q, by simpa using e⟩
    have e5 : fs1'.length = fr1'.length := by simpa using e3
    rw [List.zip_append e5] at e4
    simp only [List.zip_cons_cons, List.zip_nil_right, List.reverse_append, List.reverse_cons, List.reverse_nil, List.nil_append, List.cons_append, List.cons.injEq, Prod.mk.injEq] at e4
    obtain ⟨⟨rfl, rfl⟩, rfl⟩ := e4
    have e6 : fs = fs1' ++ f :: fs2 := by simpa using e1
    subst e6
    have L2 : LAt σ1 a (fs1' ++ f :: fs2) cast { s with posts := s.posts.erase n, frames := fr1' ++ r :: fr2.map (Frm.away n) } rest := by simpa using L1
    obtain ⟨h1, h2, h3, h4⟩ := L2.frame e5 rfl
    have hr : r ∈ s.frames := by rw [e2]; simp
    obtain ⟨z5, z6⟩ := N.fr r hr
    dsimp only
    repeat k_extra "m"
    refine CmpWP.inStrs hu' h3 hn z6 ?_
    repeat k_extra "m"
    cases hc : r.calls.contains n with
    | true =>
      refine Br.t rfl ?_
      repeat k_extra "m"
      refine CallWP.removeStr hu' h3 hn z6 (by (first | lia | omega)) (by simpa using hc) ?_
      repeat k_extra "m"
      have L3 := L2.calls e5 rfl (r.calls.erase n)
      refine ⟨.inl ?_, fs1', f :: fs2, fr1', r :: fr2, rfl, by rw [e2]; simp, e5, rfl, by k_extra "mget", by k_extra "mget", by simpa [Frm.away] using L3⟩
      rw [← eE]; exact L3.led.get 11 rfl
    | false =>
      refine Br.f rfl ?_
      repeat k_extra "m"
      have e : Frm.away n r = r := by
        unfold Frm.away
        rw [List.erase_of_not_mem (by simpa using hc)]
      refine ⟨.inl ?_, fs1', f :: fs2, fr1', r :: fr2, rfl, by rw [e2]; simp, e5, rfl, by k_extra "mget", by k_extra "mget", by simpa [e] using L2⟩
      rw [← eE]; exact L2.led.get 11 rfl
  · rintro ρ σ1 ⟨fs1, fs2, fr1, fr2, e1, e2, e3, e4, r1, r2, L1⟩
    have e5 : fr1 = [] := by
      have : (fs1.zip fr1).length = 0 := by rw [← List.length_reverse, ← e4]; rfl
      rw [List.length_zip, e3, Nat.min_self] at this
      exact List.length_eq_zero_iff.mp this
    subst e5
    repeat k_extra "m"
    refine h _ ?_
    rw [List.nil_append] at e2 L1
    rw [← e2] at L1
    exact L1

theorem LAt.deedsNew {a : LA} {fs : List FA} {f : FA} {cast : List Hn} {s : LS} {r : Frm} {fr : List Frm} {rest : List (Addr × O)} {x : Addr} (L : LAt σ a (f :: fs) cast s rest) (hf : s.frames = r :: fr) (hx : σ x = none) (ds : List Deed) :
    LAt ((σ.upd x (.list (ds.map Deed.v))).upd f.d (.sd [("number", .int r.num), ("calls", .ref f.c), ("deeds", .ref x)])) a ({ f with e := x } :: fs) cast { s with frames := { r with deeds := ds } :: fr } rest := by
  obtain ⟨M, l⟩ := L
  refine ⟨?_, by rw [hf] at l; simpa using l⟩
  unfold fp at M ⊢
  rw [hf] at M
  have M1 := (M.new (.list (ds.map Deed.v)) hx).set 14 (.sd [("number", .int r.num), ("calls", .ref f.c), ("deeds", .ref x)]) rfl
  have M2 := M1.sub (l' := [(x, O.list (ds.map Deed.v))] ++ ([tabE, _, _, _, _, _, _, _, _, _, _, _, _, _, _] ++ (fpF fs fr ++ rest))) ((List.Sublist.refl [_, _, _, _, _, _, _, _, _, _, _, _, _, _, _, _]).append ((List.Sublist.refl _).cons _))
  exact M2.perm (List.perm_append_comm_assoc [_, _, _, _, _, _, _, _, _, _, _, _, _, _, _] [_] (fpF fs fr ++ rest))
theorem LAt.callsNew {a : LA} {fs : List FA} {f : FA} {cast : List Hn} {s : LS} {r : Frm} {fr : List Frm} {rest : List (Addr × O)} {x : Addr} (L : LAt σ a (f :: fs) cast s rest) (hf : s.frames = r :: fr) (hx : σ x = none) (cs : List Str) :
    LAt ((σ.upd x (.list (cs.map V.str))).upd f.d (.sd [("number", .int r.num), ("calls", .ref x), ("deeds", .ref f.e)])) a ({ f with c := x } :: fs) cast { s with frames := { r with calls := cs } :: fr } rest := by
  obtain ⟨M, l⟩ := L
  refine ⟨?_, by rw [hf] at l; simpa using l⟩
  unfold fp at M ⊢
  rw [hf] at M
  have M1 := (M.new (.list (cs.map V.str)) hx).set 14 (.sd [("number", .int r.num), ("calls", .ref x), ("deeds", .ref f.e)]) rfl
  have M2 := M1.sub (l' := [(x, O.list (cs.map V.str))] ++ ([tabE, _, _, _, _, _, _, _, _, _, _, _, _, _] ++ ((f.e, _) :: (fpF fs fr ++ rest)))) ((List.Sublist.refl [_, _, _, _, _, _, _, _, _, _, _, _, _, _, _]).append ((List.Sublist.refl _).cons _))
  exact M2.perm (List.perm_append_comm_assoc [_, _, _, _, _, _, _, _, _, _, _, _, _, _] [_] ((f.e, _) :: (fpF fs fr ++ rest)))
theorem LAt.top {a : LA} {fs : List FA} {f : FA} {cast : List Hn} {s : LS} {r : Frm} {fr : List Frm} {rest : List (Addr × O)} (L : LAt σ a (f :: fs) cast s rest) (hf : s.frames = r :: fr) :
    σ f.f = some (.inst 212 f.d) ∧ σ f.d = some (.sd [("number", .int r.num), ("calls", .ref f.c), ("deeds", .ref f.e)]) ∧ σ f.c = some (.list (r.calls.map V.str)) ∧ σ f.e = some (.list (r.deeds.map Deed.v)) :=
  LAt.frame (fs1 := []) (fr1 := []) rfl hf L
def LS.setDeeds (s : LS) (ds : List Deed) : LS := match s.frames with
  | r :: fr => { s with frames := { r with deeds := ds } :: fr }
  | [] => s
def LS.got (s : LS) (h : Hn) : LS := if h.once then (s.setDeeds h.ds).away h.name else s.setDeeds h.ds
def LS.callIn (s : LS) (n : Int) (h : Hn) : LS := { s.got h with log := s.log ++ [.call n h.name] }
theorem LS.Names.setDeeds {s : LS} (N : s.Names) (ds : List Deed) : (s.setDeeds ds).Names := by
  unfold LS.setDeeds
  split
  · rename_i r fr e
    refine ⟨N.po, fun q hq => ?_⟩
    rcases List.mem_cons.mp hq with rfl | hq
    · exact N.fr r (by rw [e]; exact .head _)
    · exact N.fr q (by rw [e]; exact .tail _ hq)
  · exact N
theorem LS.Small.setDeeds {s : LS} (Z : s.Small) (ds : List Deed) : (s.setDeeds ds).Small := by
  unfold LS.setDeeds
  split
  · rename_i r fr e
    exact ⟨Z.po, Z.ev, Z.lg, Z.ne, Z.fa, by have := Z.fr; rw [e] at this; simpa using this⟩
  · exact Z
theorem LS.got_log (s : LS) (h : Hn) : (s.got h).log = s.log := by
  unfold LS.got LS.away LS.setDeeds
  split <;> split <;> rfl
theorem COk.one {cast : List Hn} (K : COk cast) {x y : Hn} (hx : x ∈ cast) (hy : y ∈ cast) (e : x.name = y.name) : x = y := by
  obtain ⟨i, hi, rfl⟩ := List.getElem_of_mem hx
  obtain ⟨j, hj, rfl⟩ := List.getElem_of_mem hy
  have nd := List.pairwise_iff_getElem.mp K.nd
  rcases Nat.lt_trichotomy i j with q | q | q
  · have := nd i j (by simpa using hi) (by simpa using hj) q
    simp only [List.getElem_map] at this
    exact absurd e this
  · subst q; rfl
  · have := nd j i (by simpa using hj) (by simpa using hi) q
    simp only [List.getElem_map] at this
    exact absurd e.symm this
theorem LS.got_top {s : LS} {r : Frm} {fr : List Frm} (hf : s.frames = r :: fr) (h : Hn) : ∃ r' fr', (s.got h).frames = r' :: fr' ∧ r'.num = r.num := by
  unfold LS.got LS.away LS.setDeeds
  rw [hf]
  split <;> exact ⟨_, _, rfl, rfl⟩
theorem c_callin (hK : C.K = KL C.w.params) {a : LA} {f : FA} {fs : List FA} {cast : List Hn} {s : LS} {r : Frm} {fr : List Frm} {rest : List (Addr × O)} {hn : Hn} {Q : V → Store → Prop} (hr : A.depth + 1 < recursionLimit) (hh : A.handled = none) (hu : A.units < 6900) (L : LAt σ a (f :: fs) cast s rest) (hf : s.frames = r :: fr) (Z : s.Small) (N : s.Names) (K : COk cast) (hm : hn ∈ cast) (hd : ∀ h ∈ cast, h.ds.length ≤ 1000)
    (h : ∀ f' σ', f'.f = f.f → LAt σ' a (f' :: fs) cast (s.callIn r.num hn) rest → Q .none σ') : CallWP C A (.ref 265) [.ref a.lo, .ref f.f, .str hn.name] σ Q X := by
  have hr0 : A.depth < recursionLimit := by (first | lia | omega)
  have g1 := L.led.get 1 rfl
  have g2 := L.led.get 2 rfl
  have g3 := L.led.get 3 rfl
  have z1 := Z.lg
  have z2 := K.len
  k_extra "mdef3"
  intro fL A' a1 a2 a3
  have hh' : A'.handled = none := a1.trans hh
  have hr2 : A'.depth < recursionLimit := by (first | lia | omega)
  have hu' : A'.units < 7000 := by (first | lia | omega)
  repeat k_extra "m"
  refine ⟨_, _, ItV.list hh' (.inl g3), ?_⟩
  rw [List.map_map]
  refine ForL.inv (fun h : Hn => hv h.hd) (fun xs ρ σ1 => ∃ done f', done ++ xs = cast ∧ f'.f = f.f ∧ ρ.get "self" = some (.ref a.lo) ∧ ρ.get "frame" = some (.ref f.f) ∧ ρ.get "name" = some (.str hn.name) ∧
    LAt σ1 a (f' :: fs) cast (if hn.name ∈ done.map (·.name) then s.got hn else s) rest) ?_ ?_ _ _ _ ⟨[], f, rfl, rfl, by k_extra "mget", by k_extra "mget", by k_extra "mget", by simpa using L⟩
  · rintro x xs ρ σ1 ⟨done, f', e1, e2, r1, r2, r3, L1⟩
    have hx : x ∈ cast := by rw [← e1]; simp
    simp only [hv, Hn.hd]
    repeat k_extra "m"
    have nd := K.nd
    rw [← e1, List.map_append, List.map_cons] at nd
    cases hc : x.name == hn.name with
    | true =>
      have e3 : x.name = hn.name := by simpa using hc
      have e4 : x = hn := by
        exact COk.one K hx hm e3
      subst e4
      have e5 : x.name ∉ done.map (·.name) := fun z => by
        have := (List.nodup_append.mp nd).2.2 _ z _ (List.mem_cons_self ..)
        exact this rfl
      rw [if_neg e5] at L1
      obtain ⟨t1, t2, t3, t4⟩ := L1.top hf
      rw [e2] at t1
      refine Br.t rfl ?_
      repeat k_extra "m"
      refine CallWP.listOfTup (by simp [sizeLine_eq]; have := hd x hx; (first | lia | omega)) fun y hy => ?_
      have q1 : f.f ≠ y := fun q => by rw [← q, t1] at hy; cases hy
      have q2 : f'.d ≠ y := fun q => by rw [← q, t2] at hy; cases hy
      repeat k_extra "m"
      have L2 := L1.deedsNew hf hy x.ds
      generalize hσ : Store.upd (σ1.upd y _) f'.d _ = σ2 at L2 ⊢
      have L3 : LAt σ2 a ({ f' with e := y } :: fs) cast (s.setDeeds x.ds) rest := by
        unfold LS.setDeeds; rw [hf]; exact L2
      have e6 : x.name ∈ (done ++ [x]).map (·.name) := by simp
      cases ho : x.once with
      | true =>
        refine Br.t rfl ?_
        have gA := L3.led.get 1 rfl
        have gB := L3.led.get 2 rfl
        repeat k_extra "m"
        refine c_away hK hr2 hh' hu' L3 (Z.setDeeds _) (N.setDeeds _) (K.name x hx) fun σ3 L4 => ?_
        repeat k_extra "m"
        refine ⟨.inl ?_, done ++ [x], { f' with e := y }, by simpa using e1, e2, by k_extra "mget", by k_extra "mget", by k_extra "mget", ?_⟩
        · rw [← List.map_map]; exact L4.led.get 3 rfl
        · rw [if_pos e6]; unfold LS.got; rw [ho]; exact L4
      | false =>
        refine Br.f rfl ?_
        repeat k_extra "m"
        refine ⟨.inl ?_, done ++ [x], { f' with e := y }, by simpa using e1, e2, by k_extra "mget", by k_extra "mget", by k_extra "mget", ?_⟩
        · rw [← List.map_map]; exact L3.led.get 3 rfl
        · rw [if_pos e6]; unfold LS.got; rw [ho]; exact L3
    | false =>
      have e3 : ¬ hn.name = x.name := fun e => by rw [e] at hc; simp at hc
      refine Br.f rfl ?_
      repeat k_extra "m"
      refine ⟨.inl ?_, done ++ [x], f', by simpa using e1, e2, by k_extra "mget", by k_extra "mget", by k_extra "mget", ?_⟩
      · rw [← List.map_map]; exact L1.led.get 3 rfl
      · have e7 : (hn.name ∈ (done ++ [x]).map (·.name)) = (hn.name ∈ done.map (·.name)) := by simp [e3]
        simp only [e7]; exact L1
  · rintro ρ σ1 ⟨done, f', e1, e2, r1, r2, r3, L1⟩
    rw [List.append_nil] at e1
    subst e1
    rw [if_pos (List.mem_map_of_mem hm)] at L1
    obtain ⟨r', fr', e3, e4⟩ := LS.got_top hf hn
    obtain ⟨t1, t2, t3, t4⟩ := L1.top e3
    rw [e2] at t1
    have g1 := L1.led.get 1 rfl
    have g2 := L1.led.get 2 rfl
    have g6 := L1.led.get 6 rfl
    rw [LS.got_log] at g6
    repeat k_extra "m"
    refine h f' _ e2 ?_
    have := L1.log (.call r'.num hn.name)
    rw [LS.got_log, e4] at this
    rw [e4]
    simpa [LS.callIn, Row.v] using this

def LS.setCalls (s : LS) (cs : List Str) : LS := match s.frames with
  | r :: fr => { s with frames := { r with calls := cs } :: fr }
  | [] => s
def LS.join (s : LS) (h : Str) : LS := { s with posts := if s.posts.contains h then s.posts else s.posts ++ [h] }
def Deed.Mk (_ : Deed) : Prop := False
theorem LAt.deedsTop {a : LA} {fs : List FA} {f : FA} {cast : List Hn} {s : LS} {r : Frm} {fr : List Frm} {rest : List (Addr × O)} (L : LAt σ a (f :: fs) cast s rest) (hf : s.frames = r :: fr) (ds : List Deed) :
    LAt (σ.upd f.e (.list (ds.map Deed.v))) a (f :: fs) cast { s with frames := { r with deeds := ds } :: fr } rest := by
  obtain ⟨M, l⟩ := L
  refine ⟨?_, by rw [hf] at l; simpa using l⟩
  unfold fp at M ⊢
  rw [hf] at M
  exact M.set 15 _ rfl
theorem LAt.callsTop {a : LA} {fs : List FA} {f : FA} {cast : List Hn} {s : LS} {r : Frm} {fr : List Frm} {rest : List (Addr × O)} (L : LAt σ a (f :: fs) cast s rest) (hf : s.frames = r :: fr) (cs : List Str) :
    LAt (σ.upd f.c (.list (cs.map V.str))) a (f :: fs) cast { s with frames := { r with calls := cs } :: fr } rest :=
  LAt.calls (fs1 := []) (fr1 := []) rfl hf L cs
theorem LAt.popF {a : LA} {fs : List FA} {f : FA} {cast : List Hn} {s : LS} {r : Frm} {fr : List Frm} {rest : List (Addr × O)} (L : LAt σ a (f :: fs) cast s rest) (hf : s.frames = r :: fr) :
    LAt (σ.upd a.fr (.list ((fs.map fun f => V.ref f.f).reverse))) a fs cast { s with frames := fr } rest := by
  obtain ⟨M, l⟩ := L
  refine ⟨?_, by rw [hf] at l; simpa using l⟩
  unfold fp at M ⊢
  rw [hf] at M
  have M1 := M.set 11 (.list ((fs.map fun f => V.ref f.f).reverse)) rfl
  exact M1.sub ((List.Sublist.refl [_, _, _, _, _, _, _, _, _, _, _, _]).append (((((List.Sublist.refl _).cons _).cons _).cons _).cons _))
def LS.wordOf (s : LS) (n : Int) : Str := ((s.events[n.toNat]?).map (·.word)).getD Str.empty
def insI (x : Int) : List Int → List Int
  | [] => [x]
  | y :: l => if x ≤ y then x :: y :: l else y :: insI x l
def sortI (l : List Int) : List Int := l.foldr insI []
def LS.cancel (s : LS) (n : Int) (w : Str) : LS :=
  { s with near := s.near.filter fun x => !(s.wordOf x == w), far := s.far.filter fun p => !(s.wordOf p.2 == w), log := s.log ++ [.cancel n (sortI ((s.near ++ s.far.map (·.2)).filter fun x => s.wordOf x == w))] }
def LS.deed (s : LS) (n : Int) : Deed → LS
  | .now w => s.make n (.now w)
  | .soon w => s.make n (.soon w)
  | .wait t w => s.make n (.wait t w)
  | .cancel w => s.cancel n w
  | .join h => { s.join h with log := s.log ++ [.join n h] }
  | .leave h => { s.away h with log := s.log ++ [.leave n h] }
  | .hush => { s.setCalls [] with log := s.log ++ [.hush n] }
def Deed.Fine : Deed → Prop
  | .join n => PyData.strOk n = true
  | .leave n => PyData.strOk n = true
  | _ => True
def LS.goOn (cast : List Hn) (s : LS) : LS := match s.frames with
  | [] => s
  | r :: fr => match r.deeds with
    | d :: ds => LS.deed { s with frames := { r with deeds := ds } :: fr } r.num d
    | [] => match r.calls with
      | n :: cs => match cast.find? (fun h => h.name == n) with
        | some h => LS.callIn { s with frames := { r with calls := cs } :: fr } r.num h
        | none => s
      | [] => { s with frames := fr, log := s.log ++ [.fin r.num] }
/-- what the loom's walks ask of its state -/
structure LS.Ok (cast : List Hn) (s : LS) : Prop where
  Z : s.Small
  N : s.Names
  po : ∀ n ∈ s.posts, n ∈ cast.map (·.name)
  ca : ∀ r ∈ s.frames, ∀ n ∈ r.calls, n ∈ cast.map (·.name)
  de : ∀ r ∈ s.frames, r.deeds.length ≤ 1000 ∧ ∀ d ∈ r.deeds, d.Fine ∧ d.Mk
theorem LS.Small.top {s : LS} {r r' : Frm} {fr : List Frm} (Z : s.Small) (hf : s.frames = r :: fr) : ({ s with frames := r' :: fr } : LS).Small :=
  ⟨Z.po, Z.ev, Z.lg, Z.ne, Z.fa, by have := Z.fr; rw [hf] at this; simpa using this⟩
theorem find_name {cast : List Hn} (K : COk cast) {h : Hn} (hm : h ∈ cast) : cast.find? (fun x => x.name == h.name) = some h := by
  cases e : cast.find? (fun x => x.name == h.name) with
  | none => exact absurd (List.find?_eq_none.mp e h hm) (by simp)
  | some y =>
    have h1 := List.mem_of_find?_eq_some e
    have h2 : y.name = h.name := by simpa using List.find?_some e
    rw [K.one h1 hm h2]
theorem c_goon (hK : C.K = KL C.w.params) {a : LA} {f : FA} {fs : List FA} {cast : List Hn} {s : LS} {r : Frm} {fr : List Frm} {rest : List (Addr × O)} {Q : V → Store → Prop} (hr : A.depth + 3 < recursionLimit) (hh : A.handled = none) (hu : A.units < 6800) (L : LAt σ a (f :: fs) cast s rest) (hf : s.frames = r :: fr) (W : s.Ok cast) (K : COk cast) (hds : ∀ h ∈ cast, h.ds.length ≤ 1000)
    (h : ∀ fs' σ', LAt σ' a fs' cast (s.goOn cast) rest → Q .none σ') : CallWP C A (.ref 258) [.ref a.lo, .ref f.f] σ Q X := by
  have hr0 : A.depth < recursionLimit := by (first | lia | omega)
  have g1 := L.led.get 1 rfl
  have g2 := L.led.get 2 rfl
  obtain ⟨t1, t2, t3, t4⟩ := L.top hf
  have hrm : r ∈ s.frames := by rw [hf]; exact .head _
  obtain ⟨y1, y2⟩ := W.de r hrm
  obtain ⟨y3, y4⟩ := W.N.fr r hrm
  k_extra "mdef2"
  intro fL A' a1 a2 a3
  have hh' : A'.handled = none := a1.trans hh
  have hu' : A'.units < 6900 := by (first | lia | omega)
  repeat k_extra "m"
  cases hdd : r.deeds with
  | cons d ds =>
    rw [hdd] at y2
    exact (y2 d (.head _)).2.elim
  | nil =>
    rw [hdd] at t4
    refine Br.f (by simp) ?_
    repeat k_extra "m"
    cases hcc : r.calls with
    | cons n cs =>
      rw [hcc] at t3 y3 y4
      refine Br.t (by simp) ?_
      repeat k_extra "m"
      refine CallWP.pop_at (j := 0) t3 (by decide) (by rw [seqIndex_of (by (first | lia | omega)) (by simp <;> (first | lia | omega))]; rfl) rfl (by simp [sizeLine_eq] at *; (first | lia | omega)) ?_
      have L2 := L.callsTop hf cs
      have e : List.eraseIdx (List.map V.str (n :: cs)) 0 = cs.map V.str := rfl
      rw [e]
      generalize hσ : Store.upd σ f.c _ = σ2 at L2 ⊢
      have g1 := L2.led.get 1 rfl
      have g2 := L2.led.get 2 rfl
      repeat k_extra "m"
      have N2 : ({ s with frames := { r with calls := cs } :: fr } : LS).Names := ⟨W.N.po, fun q hq => by
        rcases List.mem_cons.mp hq with rfl | hq
        · exact ⟨by simp at y3 ⊢; (first | lia | omega), fun x hx => y4 x (.tail _ hx)⟩
        · exact W.N.fr q (by rw [hf]; exact .tail _ hq)⟩
      have hn : n ∈ cast.map (·.name) := W.ca r hrm n (by rw [hcc]; exact .head _)
      obtain ⟨hn0, hm, e0⟩ := List.mem_map.mp hn
      subst e0
      have ef : cast.find? (fun h => h.name == hn0.name) = some hn0 := find_name K hm
      refine c_callin hK (r := { r with calls := cs }) (fr := fr) (by (first | lia | omega)) hh' (by (first | lia | omega)) L2 rfl (W.Z.top hf) N2 K hm hds fun f' σ3 e3 L3 => ?_
      repeat k_extra "m"
      refine h (f' :: fs) _ ?_
      unfold LS.goOn
      rw [hf]
      simp only [hdd, hcc, ef]
      exact L3
    | nil =>
      rw [hcc] at t3
      refine Br.f (by simp) ?_
      have g11 : σ a.fr = some (.list ((fs.map fun f => V.ref f.f).reverse ++ [.ref f.f])) := by
        have := L.led.get 11 rfl
        rw [List.map_cons, List.reverse_cons] at this
        exact this
      have z1 := W.Z.fr
      have z2 := L.len
      have z3 := W.Z.lg
      rw [hf] at z1 z2
      simp only [List.length_cons] at z1 z2
      repeat k_extra "m"
      have L2 := L.popF hf
      have t1' : (σ.upd a.fr (.list ((fs.map fun f => V.ref f.f).reverse))) f.f = some (.inst 212 f.d) := Store.miss (Store.ne_kind t1 g11 (by simp [O.kind])) t1
      have t2' : (σ.upd a.fr (.list ((fs.map fun f => V.ref f.f).reverse))) f.d = _ := Store.miss (Store.ne_kind t2 g11 (by simp [O.kind])) t2
      generalize hσ : Store.upd σ a.fr _ = σ2 at L2 t1' t2' ⊢
      have g1 := L2.led.get 1 rfl
      have g2 := L2.led.get 2 rfl
      have g6 := L2.led.get 6 rfl
      dsimp only at g2 g6
      repeat k_extra "m"
      refine h fs _ ?_
      unfold LS.goOn
      rw [hf]
      simp only [hdd, hcc]
      simpa [Row.v] using L2.log (.fin r.num)

theorem Heard.unique {hs : List Hd} {ns : List Str} {w : Str} {o1 o2 : List Str} (h1 : Heard hs ns w o1) (h2 : Heard hs ns w o2) : o1 = o2 := by
  obtain ⟨p, a1, a2, rfl⟩ := h1
  obtain ⟨q, b1, b2, rfl⟩ := h2
  have e : p = q := by
    refine List.Perm.eq_of_pairwise (le := slt _) ?_ a2 b2 (a1.trans b1.symm)
    intro i j _ _ x y
    unfold slt at x y
    simp only [decide_eq_true_eq, decide_eq_false_iff_not] at x y
    (first | lia | omega)
  rw [e]
open Classical in
/-- those who hear a word, in the order in which they are called -/
noncomputable def heard (cast : List Hn) (ps : List Str) (w : Str) : List Str := if h : ∃ out, Heard (cast.map Hn.hd) ps w out then Classical.choose h else []
theorem heard_eq {cast : List Hn} {ps : List Str} {w : Str} {out : List Str} (h : Heard (cast.map Hn.hd) ps w out) : out = heard cast ps w := by
  unfold heard
  have hx : ∃ out, Heard (cast.map Hn.hd) ps w out := ⟨out, h⟩
  rw [dif_pos hx]
  exact h.unique (Classical.choose_spec hx)
/-- the least of the waiting pairs -/
def minP (l : List (Int × Int)) : Option (Int × Int) := l.find? fun p => l.all fun q => !lexlt q p
theorem lexlt_anti {p q : Int × Int} (h1 : lexlt p q = false) (h2 : lexlt q p = false) : p = q := by
  unfold lexlt at h1 h2
  simp only [Bool.or_eq_false_iff, decide_eq_false_iff_not, Bool.and_eq_false_imp, beq_iff_eq] at h1 h2
  obtain ⟨a, b⟩ := h1
  obtain ⟨c, d⟩ := h2
  have e : p.1 = q.1 := by (first | lia | omega)
  have f := b e
  have g := d e.symm
  exact Prod.ext e (by (first | lia | omega))
theorem minP_eq {l : List (Int × Int)} {p : Int × Int} (hp : p ∈ l) (hm : ∀ q ∈ l, lexlt q p = false) : minP l = some p := by
  unfold minP
  have hok : (l.all fun q => !lexlt q p) = true := by
    rw [List.all_eq_true]; intro q hq; simp [hm q hq]
  cases e : l.find? (fun p => l.all fun q => !lexlt q p) with
  | none => exact absurd hok (List.find?_eq_none.mp e p hp)
  | some y =>
    have h1 := List.mem_of_find?_eq_some e
    have h2 := List.find?_some e
    simp only [List.all_eq_true, Bool.not_eq_true'] at h2
    rw [lexlt_anti (hm y h1) (h2 p hp)]
noncomputable def LS.begins (cast : List Hn) (s : LS) (n : Int) : LS := s.begin n (heard cast s.posts (s.wordOf n))
noncomputable def LS.step (cast : List Hn) (s : LS) : Option LS := match s.fresh with
  | some n => some (LS.begins cast { s with fresh := none } n)
  | none => match s.frames with
    | _ :: _ => some (s.goOn cast)
    | [] => match s.near with
      | n :: ns => some (LS.begins cast { s with near := ns } n)
      | [] => match minP s.far with
        | some p => some (LS.begins cast { s with far := s.far.erase p, time := max s.time p.1 } p.2)
        | none => none
/-- the numbers that stand for events -/
structure LS.Nums (s : LS) : Prop where
  fresh : ∀ n, s.fresh = some n → 0 ≤ n ∧ n < s.events.length
  near : ∀ n ∈ s.near, 0 ≤ n ∧ n < s.events.length
  far : ∀ p ∈ s.far, 0 ≤ p.2 ∧ p.2 < s.events.length
  word : ∀ e ∈ s.events, PyData.strOk e.word = true
theorem c_begins (E : LC C) {a : LA} {fs : List FA} {cast : List Hn} {s : LS} {rest : List (Addr × O)} {n : Int} {Q : V → Store → Prop} (hr : A.depth + 2 < recursionLimit) (hh : A.handled = none) (hu : A.units < 7000) (L : LAt σ a fs cast s rest) (Z : s.Small) (K : COk cast)
    (hsub : ∀ n ∈ s.posts, n ∈ cast.map (·.name)) (h0 : 0 ≤ n) (h1 : n < s.events.length) (hw : ∀ e ∈ s.events, PyData.strOk e.word = true)
    (h : ∀ f σ', LAt σ' a (f :: fs) cast (s.begins cast n) rest → Q .none σ') : CallWP C A (.ref 251) [.ref a.lo, .int n] σ Q X := by
  obtain ⟨i, rfl⟩ := Int.eq_ofNat_of_zero_le h0
  have hi : i < s.events.length := by (first | lia | omega)
  have e1 : s.events[i]? = some s.events[i] := List.getElem?_eq_getElem hi
  have e2 : s.wordOf (i : Int) = (s.events[i]).word := by simp [LS.wordOf, hi]
  refine c_begin E hr hh hu L Z K hsub e1 (hw _ (List.getElem_mem hi)) fun out f σ' hH L' => h f σ' ?_
  unfold LS.begins
  rw [e2, ← heard_eq hH]
  exact L'
theorem c_step (E : LC C) {a : LA} {fs : List FA} {cast : List Hn} {s : LS} {rest : List (Addr × O)} {Q : V → Store → Prop} (hr : A.depth + 4 < recursionLimit) (hh : A.handled = none) (hu : A.units < 6700) (L : LAt σ a fs cast s rest) (W : s.Ok cast) (M : s.Nums) (K : COk cast) (hds : ∀ h ∈ cast, h.ds.length ≤ 1000)
    (h : ∀ fs' σ' s', s.step cast = some s' → LAt σ' a fs' cast s' rest → Q (.bool true) σ') (h2 : s.step cast = none → Q (.bool false) σ) : CallWP C A (.ref 244) [.ref a.lo] σ Q X := by
  have hK := E.hK
  have hr0 : A.depth < recursionLimit := by (first | lia | omega)
  have g1 := L.led.get 1 rfl
  have g2 := L.led.get 2 rfl
  have g11 := L.led.get 11 rfl
  have z1 := W.Z.fr
  have z2 := L.len
  k_extra "mdef1"
  intro fL A' a1 a2 a3
  have hh' : A'.handled = none := a1.trans hh
  cases hfr : s.fresh with
  | some n =>
    rw [hfr] at g2
    dsimp only [optV] at g2
    repeat k_extra "m"
    have L2 := L.fresh none
    dsimp only [optV] at L2
    generalize hσ : Store.upd σ a.d _ = σ2 at L2 ⊢
    have g1 := L2.led.get 1 rfl
    have g2 := L2.led.get 2 rfl
    dsimp only [optV] at g2
    repeat k_extra "m"
    obtain ⟨m1, m2⟩ := M.fresh n hfr
    refine c_begins E (by (first | lia | omega)) hh' (by (first | lia | omega)) L2 ⟨W.Z.po, W.Z.ev, W.Z.lg, W.Z.ne, W.Z.fa, W.Z.fr⟩ K W.po m1 m2 M.word fun f σ3 L3 => ?_
    repeat k_extra "m"
    refine h _ _ _ ?_ L3
    unfold LS.step; rw [hfr]
  | none =>
    rw [hfr] at g2
    dsimp only [optV] at g2
    repeat k_extra "m"
    cases fs with
    | cons f fs1 =>
      obtain ⟨r, fr, hf⟩ : ∃ r fr, s.frames = r :: fr := by
        cases e : s.frames with
        | nil => rw [e] at z2; simp at z2
        | cons r fr => exact ⟨r, fr, rfl⟩
      rw [List.map_cons, List.reverse_cons] at g11
      refine Br.t (by simp) ?_
      repeat k_extra "m"
      refine c_goon hK (by (first | lia | omega)) hh' (by (first | lia | omega)) L hf W K hds fun fs' σ2 L2 => ?_
      repeat k_extra "m"
      refine h _ _ _ ?_ L2
      unfold LS.step; rw [hfr, hf]
    | nil =>
      have hf : s.frames = [] := by
        cases e : s.frames with
        | nil => rfl
        | cons r fr => rw [e] at z2; simp at z2
      refine Br.f (by simp) ?_
      have g7 := L.led.get 7 rfl
      have g8 := L.led.get 8 rfl
      repeat k_extra "m"
      refine c_lead hK (by (first | lia | omega)) hh' (by (first | lia | omega)) L.wat (by have := W.Z.ne; (first | lia | omega)) (by have := W.Z.fa; (first | lia | omega)) ?_ ?_ ?_
      · intro n ns hn
        have L2 := L.near ns
        generalize hσ : Store.upd σ a.ne _ = σ2 at L2 ⊢
        have g1 := L2.led.get 1 rfl
        have g2 := L2.led.get 2 rfl
        repeat k_extra "m"
        obtain ⟨m1, m2⟩ := M.near n (by rw [hn]; exact .head _)
        refine c_begins E (by (first | lia | omega)) hh' (by (first | lia | omega)) L2 ⟨W.Z.po, W.Z.ev, W.Z.lg, by have := W.Z.ne; rw [hn] at this; simp at this ⊢; (first | lia | omega), W.Z.fa, W.Z.fr⟩ K W.po m1 m2 M.word fun f σ3 L3 => ?_
        repeat k_extra "m"
        refine h _ _ _ ?_ L3
        unfold LS.step; rw [hfr, hf, hn]
      · intro e1 e2
        repeat k_extra "m"
        refine h2 ?_
        unfold LS.step; rw [hfr, hf, e1, e2]; rfl
      · intro e1 p hp hm
        have L2 := L.far (s.far.erase p)
        generalize hσ : Store.upd σ a.fa _ = σ2 at L2 ⊢
        have g1 := L2.led.get 1 rfl
        have g2 := L2.led.get 2 rfl
        obtain ⟨m1, m2⟩ := M.far p hp
        have es : s.step cast = some (LS.begins cast { s with far := s.far.erase p, time := max s.time p.1 } p.2) := by
          unfold LS.step; rw [hfr, hf, e1, minP_eq hp hm]
        have Z2 : ({ s with far := s.far.erase p, time := max s.time p.1 } : LS).Small := ⟨W.Z.po, W.Z.ev, W.Z.lg, W.Z.ne, Nat.le_trans (List.length_erase_le ..) W.Z.fa, W.Z.fr⟩
        dsimp only at g2
        repeat k_extra "m"
        by_cases hlt : s.time < p.1
        · refine Br.t (by simpa using hlt) ?_
          repeat k_extra "m"
          have L3 := L2.time p.1
          dsimp only at L3
          generalize hσ3 : Store.upd σ2 a.d _ = σ3 at L3 ⊢
          have e3 : max s.time p.1 = p.1 := by (first | lia | omega)
          rw [← e3] at L3
          have g1 := L3.led.get 1 rfl
          have g2 := L3.led.get 2 rfl
          repeat k_extra "m"
          refine c_begins E (by (first | lia | omega)) hh' (by (first | lia | omega)) L3 Z2 K W.po m1 m2 M.word fun f σ4 L4 => ?_
          repeat k_extra "m"
          exact h _ _ _ es L4
        · refine Br.f (by simpa using hlt) ?_
          have e3 : max s.time p.1 = s.time := by (first | lia | omega)
          rw [e3] at es Z2
          repeat k_extra "m"
          refine c_begins E (by (first | lia | omega)) hh' (by (first | lia | omega)) L2 Z2 K W.po m1 m2 M.word fun f σ4 L4 => ?_
          repeat k_extra "m"
          exact h _ _ _ es L4

noncomputable def LS.runs (cast : List Hn) : Nat → LS → Nat × LS
  | 0, s => (0, s)
  | k + 1, s => match s.step cast with
    | none => (0, s)
    | some s' => ((LS.runs cast k s').1 + 1, (LS.runs cast k s').2)
theorem LS.runs_some {cast : List Hn} {k : Nat} {s s' : LS} (h : s.step cast = some s') : LS.runs cast (k + 1) s = ((LS.runs cast k s').1 + 1, (LS.runs cast k s').2) := by
  rw [LS.runs]; simp only [h]
theorem LS.runs_none {cast : List Hn} {k : Nat} {s : LS} (h : s.step cast = none) : LS.runs cast k s = (0, s) := by
  cases k with
  | zero => rfl
  | succ k => rw [LS.runs]; simp only [h]
theorem c_run (E : LC C) {a : LA} {fs : List FA} {cast : List Hn} {s : LS} {rest : List (Addr × O)} {m : Nat} {Q : V → Store → Prop} (hr : A.depth + 5 < recursionLimit) (hh : A.handled = none) (hu : A.units < 6600) (L : LAt σ a fs cast s rest) (K : COk cast) (hds : ∀ h ∈ cast, h.ds.length ≤ 1000)
    (P : Nat → LS → Prop) (h0 : P 0 s) (hs : ∀ k s1 s2, k < m → P k s1 → s1.step cast = some s2 → P (k + 1) s2) (hok : ∀ k s1, k < m → P k s1 → s1.Ok cast ∧ s1.Nums)
    (h : ∀ k fs' s' σ', k ≤ m → P k s' → LS.runs cast m s = (k, s') → (k < m → s'.step cast = none) → LAt σ' a fs' cast s' rest → Q (.int k) σ') : CallWP C A (.ref 291) [.ref a.lo, .int m] σ Q X := by
  have hK := E.hK
  have hr0 : A.depth < recursionLimit := by (first | lia | omega)
  have g1 := L.led.get 1 rfl
  k_extra "mdef2"
  intro fL A' a1 a2 a3
  have hh' : A'.handled = none := a1.trans hh
  have hr2 : A'.depth < recursionLimit := by (first | lia | omega)
  repeat k_extra "m"
  refine c_whole hK hr2 (.int _) ?_
  repeat k_extra "m"
  refine Ex.while (fun n ρ σ1 => ∃ k fs1 s1, n = m - k ∧ k ≤ m ∧ P k s1 ∧ LS.runs cast m s = (k + (LS.runs cast (m - k) s1).1, (LS.runs cast (m - k) s1).2) ∧ ρ.get "self" = some (.ref a.lo) ∧ ρ.get "most" = some (.int m) ∧ ρ.get "done" = some (.int k) ∧ LAt σ1 a fs1 cast s1 rest) ?_ m ⟨0, fs, s, by simp, by (first | lia | omega), h0, by simp, by k_extra "mget", by k_extra "mget", by rw [show ((0 : Nat) : Int) = 0 from rfl]; k_extra "mget", L⟩
  rintro n ρ σ1 ⟨k, fs1, s1, rfl, hk, hP, hR, r1, r2, r3, L1⟩
  have g1 := L1.led.get 1 rfl
  have g2 := L1.led.get 2 rfl
  repeat k_extra "m"
  by_cases hlt : k < m
  · obtain ⟨W, M⟩ := hok k s1 hlt hP
    obtain ⟨j, hj⟩ : ∃ j, m - k = j + 1 := ⟨m - k - 1, by (first | lia | omega)⟩
    refine Br.t (by simpa using hlt) ?_
    repeat k_extra "m"
    refine c_step E (by (first | lia | omega)) hh' (by (first | lia | omega)) L1 W M K hds ?_ ?_
    · intro fs2 σ2 s2 hst L2
      repeat k_extra "m"
      have e1 : m - (k + 1) = j := by (first | lia | omega)
      refine ⟨m - (k + 1), by (first | lia | omega), k + 1, fs2, s2, rfl, by (first | lia | omega), hs k s1 s2 hlt hP hst, ?_, by k_extra "mget", by k_extra "mget", by rw [show ((k + 1 : Nat) : Int) = (k : Int) + 1 from by omega]; k_extra "mget", L2⟩
      rw [hR, hj, LS.runs_some hst, e1]
      simp only [Prod.mk.injEq, and_true]
      (first | lia | omega)
    · intro hst
      repeat k_extra "m"
      refine h k fs1 s1 σ1 hk hP ?_ (fun _ => hst) L1
      rw [hR, LS.runs_none hst]; rfl
  · refine Br.f (by simpa using hlt) ?_
    repeat k_extra "m"
    have e1 : m - k = 0 := by (first | lia | omega)
    refine h k fs1 s1 σ1 hk hP ?_ (fun z => absurd z hlt) L1
    rw [hR, e1]; rfl

def Deed.Good (_ : Deed) : Prop := False
theorem isW_len {x : Str} (h : isW x = true) : x.length ≤ 12 := by
  unfold isW at h
  simp only [Bool.and_eq_true, decide_eq_true_eq] at h
  exact h.1.2
abbrev withAWord : List Str := [Str.ofString "now", Str.ofString "soon", Str.ofString "cancel", Str.ofString "join", Str.ofString "leave"]
/-- a handler that stands well; its deeds are a list or a tuple -/
structure Hn.Good (h : Hn) : Prop where
  name : isW h.name = true
  hears : h.hears = Str.ofString "" ∨ isW h.hears = true
  len : h.ds.length ≤ 30
  ds : ∀ d ∈ h.ds, d.Good
/-- how a handler lies as it is told: x holds its deeds -/
def Hn.tv (h : Hn) (x : V) : V := .tup [.str h.name, .int h.rank, .str h.hears, .bool h.once, x]

theorem c_ishandler (hK : C.K = KL C.w.params) {hn : Hn} {x : V} {Q : V → Store → Prop} (hr : A.depth + 2 < recursionLimit) (hh : A.handled = none) (hu : A.units < 6900) (G : hn.Good)
    (hx : (∃ l, x = .ref l ∧ σ l = some (.list (hn.ds.map Deed.v))) ∨ False)
    (h : ∀ σ', Grow σ σ' → Q (.bool true) σ') : CallWP C A (.ref 126) [hn.tv x] σ Q X := by
  have hr0 : A.depth < recursionLimit := by (first | lia | omega)
  have l1 := isW_len G.name
  have l2 := G.len
  simp only [Hn.tv]
  k_extra "mdef1"
  intro fL A' a1 a2 a3
  have hh' : A'.handled = none := a1.trans hh
  have hr2 : A'.depth < recursionLimit := by (first | lia | omega)
  refine Exs.cut (fun ρ σ' => ρ.get "thing" = some (.tup [.str hn.name, .int hn.rank, .str hn.hears, .bool hn.once, x]) ∧ Grow σ σ') ?_ ?_
  · repeat k_extra "m"
    exact ⟨rfl, by k_extra "mget", Grow.rfl'⟩
  rintro ρ σ1 ⟨r1, g1⟩
  refine Exs.cut (fun ρ σ' => ρ.get "thing" = some (.tup [.str hn.name, .int hn.rank, .str hn.hears, .bool hn.once, x]) ∧ Grow σ σ') ?_ ?_
  · repeat k_extra "m"
    refine c_isw hK hr2 hh' (by (first | lia | omega)) fun σ2 g2 => ?_
    rw [G.name]
    repeat k_extra "m"
    refine c_whole hK hr2 (.int _) ?_
    repeat k_extra "m"
    exact ⟨rfl, by k_extra "mget", g1.trans g2⟩
  clear r1 g1 ρ σ1
  rintro ρ σ1 ⟨r1, g1⟩
  refine Exs.cut (fun ρ σ' => ρ.get "thing" = some (.tup [.str hn.name, .int hn.rank, .str hn.hears, .bool hn.once, x]) ∧ Grow σ σ') ?_ ?_
  · repeat k_extra "m"
    rcases G.hears with e | e
    · refine Br.f (by rw [e]; simp) ?_
      repeat k_extra "m"
      exact ⟨rfl, by k_extra "mget", g1⟩
    · cases hc : hn.hears != Str.ofString "" with
      | false =>
        refine Br.f rfl ?_
        repeat k_extra "m"
        exact ⟨rfl, by k_extra "mget", g1⟩
      | true =>
        refine Br.t rfl ?_
        repeat k_extra "m"
        refine c_isw hK hr2 hh' (by have := isW_len e; (first | lia | omega)) fun σ2 g2 => ?_
        rw [e]
        repeat k_extra "m"
        exact ⟨rfl, by k_extra "mget", g1.trans g2⟩
  clear r1 g1 ρ σ1
  rintro ρ σ1 ⟨r1, g1⟩
  rcases hx with ⟨l, rfl, hl⟩ | hx
  · have hl1 := g1 _ _ hl
    repeat k_extra "m"
    refine Br.t (by simp; (first | lia | omega)) ?_
    repeat k_extra "m"
    refine ⟨_, _, ItV.list hh' (.inl hl1), fun L' => ?_⟩
    refine CmpL.inv Deed.v (fun ys out σ2 => ∃ done, done ++ ys = hn.ds ∧ Grow σ1 σ2 ∧ out = (done.map fun _ => true).map V.bool) ?_ ?_ _ _ _ ⟨[], rfl, Grow.rfl', rfl⟩
    · rintro d ys out σ2 ⟨done, e, g, rfl⟩
      exact (G.ds d (by rw [← e]; simp)).elim
    · rintro out σ2 ⟨done, e, g, rfl⟩
      rw [List.append_nil] at e
      subst e
      intro c hc
      repeat k_extra "m"
      refine CallWP.all hh' (.inl Store.hit) ?_
      have e3 : ((hn.ds.map fun _ => true).all id) = true := by simp
      rw [e3]
      repeat k_extra "m"
      exact h _ ((g1.trans g).fresh hc)
  · exact hx.elim

/-- handlers as they are told -/
structure Told (σ : Store) (hs : List (Hn × V)) : Prop where
  at_ : ∀ p ∈ hs, (∃ l, p.2 = .ref l ∧ σ l = some (.list (p.1.ds.map Deed.v))) ∨ False
  good : ∀ p ∈ hs, p.1.Good
  nd : (hs.map (·.1.name)).Nodup
  len : hs.length ≤ 40
  names : ∀ p ∈ hs, ∀ d ∈ p.1.ds, ∀ n, (d = .join n ∨ d = .leave n) → n ∈ hs.map (·.1.name)
theorem sput_names : ∀ {ns : List Str} {n : Str}, n ∉ ns → sput (ns.map fun n => (n, V.bool true)) n (.bool true) = (ns ++ [n]).map fun n => (n, V.bool true)
  | [], n, _ => rfl
  | k :: ns, n, h => by
    simp only [List.mem_cons, not_or] at h
    simp only [List.map_cons, List.cons_append, sput, h.1, if_false]
    exact congrArg _ (sput_names h.2)
theorem sget_names {ns : List Str} {n : Str} : (sget (ns.map fun n => (n, V.bool true)) n).isSome = ns.contains n := by
  unfold sget
  rw [Option.isSome_map, List.find?_map, Option.isSome_map, Bool.eq_iff_iff]
  simp [List.find?_isSome]
theorem c_needh (hK : C.K = KL C.w.params) (hS : SysOk C) {l : Addr} {hs : List (Hn × V)} {Q : V → Store → Prop} (hr : A.depth + 3 < recursionLimit) (hh : A.handled = none) (hu : A.units < 6800) (T : Told σ hs) (hl : LstAt C σ l (hs.map fun p => p.1.tv p.2))
    (h : ∀ a σ', Grow σ σ' → σ a = none → σ' a = some (.list ((hs.map (·.1.hd)).map hv)) → Q (.ref a) σ') : CallWP C A (.ref 133) [.ref l] σ Q X := by
  have hr0 : A.depth < recursionLimit := by (first | lia | omega)
  have l2 := T.len
  k_extra "mdef1"
  intro fL A' a1 a2 a3
  have hh' : A'.handled = none := a1.trans hh
  repeat k_extra "m"
  intro fa hfa
  repeat k_extra "m"
  refine Ev.dict0 fun kn hkn => ?_
  repeat k_extra "m"
  obtain ⟨q1, hkn0⟩ := Store.none_ne hkn
  have g0 : Grow σ ((σ.upd fa (.list [])).upd kn (.sd [])) := (Grow.rfl'.upd hfa).upd hkn0
  have lg : ∀ {σ1 : Store}, Grow σ σ1 → LstAt C σ1 l (hs.map fun p => p.1.tv p.2) := fun g => by
    rcases hl with z | z
    · exact .inl (g _ _ z)
    · exact .inr z
  refine ⟨l, _, rfl, lg g0, ?_⟩
  rw [enumV_map]
  refine ForL.inv (fun p : (Hn × V) × Nat => V.tup [.int (p.2 : Int), p.1.1.tv p.1.2]) (fun xs ρ σ1 => ∃ done rest, done ++ rest = hs ∧ xs = rest.zipIdx done.length ∧ Grow σ σ1 ∧ σ1 fa = some (.list ((done.map (·.1.hd)).map hv)) ∧ σ1 kn = some (.sd ((done.map (·.1.name)).map fun n => (n, V.bool true))) ∧ ρ.get "found" = some (.ref fa) ∧ ρ.get "known" = some (.ref kn)) ?_ ?_ _ _ _
    ⟨[], hs, rfl, rfl, g0, Store.miss (Ne.symm q1) Store.hit, Store.hit, by k_extra "mget", by k_extra "mget"⟩
  · rintro ⟨⟨hn, v⟩, i⟩ xs ρ σ1 ⟨done, rest, e1, e2, g1, f1, f2, r1, r2⟩
    cases rest with
    | nil => simp at e2
    | cons p rest =>
    rw [List.zipIdx_cons] at e2
    simp only [List.cons.injEq, Prod.mk.injEq] at e2
    obtain ⟨⟨rfl, rfl⟩, rfl⟩ := e2
    have hm : (hn, v) ∈ hs := by rw [← e1]; simp
    have hlen : done.length < 40 := by rw [← e1] at l2; simp at l2; (first | lia | omega)
    have hG := T.good _ hm
    have hv0 := T.at_ _ hm
    have hv1 : (∃ l, v = .ref l ∧ σ1 l = some (.list (hn.ds.map Deed.v))) ∨ False := by
      rcases hv0 with ⟨l', z1, z2⟩ | z
      · exact .inl ⟨l', z1, g1 _ _ z2⟩
      · exact .inr z
    have hnew : hn.name ∉ done.map (·.1.name) := by
      have nd := T.nd
      rw [← e1, List.map_append, List.nodup_append] at nd
      exact fun z => nd.2.2 _ z _ (by simp) rfl
    have hds := hG.len
    dsimp only
    repeat k_extra "m"
    refine Br.f (by simp; (first | lia | omega)) ?_
    repeat k_extra "m"
    refine c_ishandler hK (by (first | lia | omega)) hh' (by (first | lia | omega)) hG hv1 fun σ2 g2 => ?_
    have f1' := g2 _ _ f1
    have f2' := g2 _ _ f2
    simp only [Hn.tv]
    repeat k_extra "m"
    refine CmpWP.inSd f2' hS ?_
    rw [sget_names]
    have hc : (done.map (·.1.name)).contains hn.name = false := by simpa using hnew
    rw [hc]
    repeat k_extra "m"
    refine SetWP.sd f2' (by simp [sizeLine_eq]; (first | lia | omega)) ?_
    rw [sput_names hnew]
    have g3 : Grow σ (σ2.upd kn (.sd ((done.map (·.1.name) ++ [hn.name]).map fun n => (n, V.bool true)))) := (g1.trans g2).upd hkn0
    have tv : ∀ {Q3 : V → Store → Prop} {X3 : XP}, Q3 (.tup (hn.ds.map Deed.v)) (σ2.upd kn (.sd ((done.map (·.1.name) ++ [hn.name]).map fun n => (n, V.bool true)))) → CallWP C A' (.type "tuple") [v] (σ2.upd kn (.sd ((done.map (·.1.name) ++ [hn.name]).map fun n => (n, V.bool true)))) Q3 X3 := by
      intro Q3 X3 hq
      rcases hv0 with ⟨l', z1, z2⟩ | z
      · dsimp only at z1 z2
        subst z1
        exact CallWP.tupOf (.inl (g3 _ _ z2)) (by dsimp only at hds; simp [sizeLine_eq]; (first | lia | omega)) hq
      · exact z.elim
    have f3 : (σ2.upd kn (.sd ((done.map (·.1.name) ++ [hn.name]).map fun n => (n, V.bool true)))) fa = some (.list ((done.map (·.1.hd)).map hv)) := Store.miss (Ne.symm q1) f1'
    repeat k_extra "m"
    refine tv ?_
    repeat k_extra "m"
    refine ⟨lg (g3.upd hfa), done ++ [(hn, v)], rest, by simpa using e1, by simp, g3.upd hfa, ?_, ?_, by k_extra "mget", by k_extra "mget"⟩
    · rw [Store.hit]; simp [hv, Hn.hd]
    · rw [Store.miss q1 Store.hit]; simp
  · rintro ρ σ1 ⟨done, rest, e1, e2, g1, f1, f2, r1, r2⟩
    have e3 : rest = [] := by
      cases rest with
      | nil => rfl
      | cons p r => rw [List.zipIdx_cons] at e2; cases e2
    subst e3
    rw [List.append_nil] at e1
    subst e1
    repeat k_extra "m"
    refine ⟨_, _, ItV.list hh' (.inl f1), ?_⟩
    rw [List.map_map]
    refine ForL.inv (fun p : Hn × V => hv p.1.hd) (fun xs ρ σ2 => (∀ p ∈ xs, p ∈ done) ∧ σ2 = σ1 ∧ ρ.get "found" = some (.ref fa) ∧ ρ.get "known" = some (.ref kn)) ?_ ?_ _ _ _ ⟨fun _ z => z, rfl, r1, r2⟩
    · rintro ⟨hn, v⟩ xs ρ σ2 ⟨hsub, rfl, r1, r2⟩
      have hm := hsub _ (.head _)
      simp only [hv, Hn.hd]
      repeat k_extra "m"
      refine ⟨_, _, ItV.tup hh', ?_⟩
      refine ForL.inv Deed.v (fun ds ρ σ3 => (∀ d ∈ ds, d ∈ hn.ds) ∧ σ3 = σ2 ∧ ρ.get "found" = some (.ref fa) ∧ ρ.get "known" = some (.ref kn)) ?_ ?_ _ _ _ ⟨fun _ z => z, rfl, by k_extra "mget", by k_extra "mget"⟩
      · rintro d ds ρ σ3 ⟨hsub2, rfl, r1, r2⟩
        exact ((T.good _ hm).ds d (hsub2 d (.head _))).elim
      · rintro ρ σ3 ⟨_, rfl, r1, r2⟩
        repeat k_extra "m"
        refine ⟨.inl ?_, fun p hp => hsub p (.tail _ hp), rfl, r1, r2⟩
        rw [← List.map_map]; exact f1
    · rintro ρ σ2 ⟨_, rfl, r1, r2⟩
      repeat k_extra "m"
      exact h fa _ g1 hfa f1

theorem c_needn (hK : C.K = KL C.w.params) {l l2 : Addr} {cast : List Hn} {ns : List Str} {Q : V → Store → Prop} (hr : A.depth < recursionLimit) (hh : A.handled = none) (hu : A.units < 6800) (hl : σ l = some (.list ((cast.map Hn.hd).map hv))) (hl2 : σ l2 = some (.list (ns.map V.str))) (hz : cast.length ≤ 60) (hz2 : ns.length ≤ 60)
    (nd : ns.Nodup) (hsub : ∀ n ∈ ns, n ∈ cast.map (·.name)) (ok : ∀ n ∈ cast.map (·.name), PyData.strOk n = true)
    (h : ∀ a σ', Grow σ σ' → σ a = none → σ' a = some (.list (ns.map V.str)) → Q (.ref a) σ') : CallWP C A (.ref 138) [.ref l, .ref l2] σ Q X := by
  k_extra "mdef2"
  intro fL A' a1 a2 a3
  have hh' : A'.handled = none := a1.trans hh
  repeat k_extra "m"
  refine ⟨_, _, ItV.list hh' (.inl hl), fun L' => ?_⟩
  refine CmpL.pure (fun _ => true) (fun y => match y with | .tup (x :: _) => x | _ => .none) (.inl hl) _ _ ?_ ?_ (by simp [sizeLine_eq]; (first | lia | omega)) ?_
  · intro y hy Q hQ
    repeat k_extra "m"
    exact hQ
  · intro y hy _ Q hQ
    obtain ⟨p, hp, rfl⟩ := List.mem_map.mp hy
    simp only [hv]
    repeat k_extra "m"
    exact hQ
  intro kn hkn
  have e : ([] : List V) ++ List.map (fun y => match y with | .tup (x :: _) => x | _ => .none) (List.filter (fun _ => true) ((cast.map Hn.hd).map hv)) = (cast.map (·.name)).map V.str := by
    rw [List.nil_append, List.filter_eq_self.mpr (fun _ _ => rfl), List.map_map, List.map_map, List.map_map]; rfl
  rw [e]
  repeat k_extra "m"
  intro fa hfa
  obtain ⟨q1, hfa0⟩ := Store.none_ne hfa
  repeat k_extra "m"
  have hl2' : ((σ.upd kn (.list ((cast.map (·.name)).map V.str))).upd fa (.list [])) l2 = some (.list (ns.map V.str)) := Store.at_fresh hfa (Store.at_fresh hkn hl2)
  refine ⟨_, _, ItV.list hh' (.inl hl2'), ?_⟩
  refine ForL.inv V.str (fun xs ρ σ1 => ∃ done, done ++ xs = ns ∧ Grow σ σ1 ∧ σ1 kn = some (.list ((cast.map (·.name)).map V.str)) ∧ σ1 fa = some (.list (done.map V.str)) ∧ ρ.get "known" = some (.ref kn) ∧ ρ.get "found" = some (.ref fa)) ?_ ?_ _ _ _ ⟨[], rfl, (Grow.rfl'.upd hkn).upd hfa0, Store.miss (Ne.symm q1) Store.hit, Store.hit, by k_extra "mget", by k_extra "mget"⟩
  · rintro n xs ρ σ1 ⟨done, e1, g1, f1, f2, r1, r2⟩
    have hm : n ∈ ns := by rw [← e1]; simp
    have hm2 := hsub n hm
    have hnew : n ∉ done := by
      rw [← e1, List.nodup_append] at nd
      exact fun z => nd.2.2 _ z _ (.head _) rfl
    have hlen : done.length ≤ 60 := by rw [← e1] at hz2; simp at hz2; (first | lia | omega)
    have hdok : ∀ x ∈ done, PyData.strOk x = true := fun x hx => ok x (hsub x (by rw [← e1]; simp [hx]))
    repeat k_extra "m"
    refine CmpWP.notInStrs (by (first | lia | omega)) f1 (ok n hm2) ok ?_
    have hc : (cast.map (·.name)).contains n = true := by simpa using hm2
    rw [hc]
    repeat k_extra "m"
    refine CmpWP.inStrs (by (first | lia | omega)) f2 (ok n hm2) hdok ?_
    have hc2 : done.contains n = false := by simpa using hnew
    rw [hc2]
    repeat k_extra "m"
    refine ⟨.inl ((g1.upd hfa0) _ _ hl2), done ++ [n], by simpa using e1, g1.upd hfa0, Store.miss (Ne.symm q1) f1, ?_, by k_extra "mget", by k_extra "mget"⟩
    rw [Store.hit]; simp
  · rintro ρ σ1 ⟨done, e1, g1, f1, f2, r1, r2⟩
    rw [List.append_nil] at e1
    subst e1
    repeat k_extra "m"
    exact h fa _ g1 hfa0 f2

def LS.new (ns : List Str) : LS := ⟨ns, 0, [], [], [], [], [], none⟩
theorem Told.grow {σ σ' : Store} {hs : List (Hn × V)} (T : Told σ hs) (g : Grow σ σ') : Told σ' hs :=
  ⟨fun p hp => (T.at_ p hp).imp (fun ⟨l, a, b⟩ => ⟨l, a, g _ _ b⟩) id, T.good, T.nd, T.len, T.names⟩
theorem Led.addL {σ σ' : Store} {l l2 : List (Addr × O)} (L : Led σ l) (g : Grow σ σ') (nd : (l2.map (·.1)).Nodup) (fr : ∀ p ∈ l2, σ p.1 = none) (at_ : ∀ p ∈ l2, σ' p.1 = some p.2) : Led σ' (l2 ++ l) := by
  refine ⟨?_, fun p hp => ?_⟩
  · rw [List.map_append, List.nodup_append]
    refine ⟨nd, L.nd, fun x hx y hy e => ?_⟩
    subst e
    obtain ⟨p, hp, rfl⟩ := List.mem_map.mp hx
    exact L.free (fr p hp) hy
  · rcases List.mem_append.mp hp with hp | hp
    · exact at_ p hp
    · exact g _ _ (L.at_ p hp)
theorem perm_rev {α : Type} (A : List α) {X X' : List α} (h : X.Perm X') : (A ++ X).Perm (X' ++ A) := List.perm_append_comm.trans (h.append_right A)
theorem c_Loom (hK : C.K = KL C.w.params) (hS : SysOk C) {l l2 : Addr} {hs : List (Hn × V)} {ns : List Str} {rest : List (Addr × O)} {Q : V → Store → Prop} (hr : A.depth + 6 < recursionLimit) (hh : A.handled = none) (hu : A.units < 6700) (T : Told σ hs) (hl : LstAt C σ l (hs.map fun p => p.1.tv p.2))
    (hl2 : σ l2 = some (.list (ns.map V.str))) (hz2 : ns.length ≤ 60) (nd : ns.Nodup) (hsub : ∀ n ∈ ns, n ∈ hs.map (·.1.name)) (ok : ∀ n ∈ hs.map (·.1.name), PyData.strOk n = true) (M : Led σ (tabE :: rest))
    (h : ∀ a σ', LAt σ' a [] (hs.map (·.1)) (LS.new ns) rest → Grow σ σ' → σ a.lo = none → Q (.ref a.lo) σ') : CallWP C A (.ref 322) [.ref l, .ref l2] σ Q X := by
  refine CallWP.cls (by k_extra "mK") (by k_extra "mK") (by k_extra "mK") fun w dx A1 hw hd hne h1 h2 h3 => ?_
  have hr1 : A1.depth < recursionLimit := by (first | lia | omega)
  k_extra "mdefC3"
  intro L A' a1 a2 a3
  have hh' : A'.handled = none := (a1.trans h1).trans hh
  have hne' : dx ≠ w := Ne.symm hne
  have M0 : Led ((σ.upd dx (.sd [])).upd w (.inst 322 dx)) ((w, .inst 322 dx) :: (dx, .sd []) :: tabE :: rest) := (M.new (.sd []) hd).new (.inst 322 dx) (by rw [Store.upd_ne _ _ hne]; exact hw)
  have g0 : Grow σ ((σ.upd dx (.sd [])).upd w (.inst 322 dx)) := (Grow.rfl'.upd hd).upd hw
  generalize hσ0 : (σ.upd dx (.sd [])).upd w (.inst 322 dx) = σ0 at M0 g0 ⊢
  have t1 := M0.get 0 rfl
  have t2 := M0.get 1 rfl
  repeat k_extra "m"
  have lg : LstAt C σ0 l (hs.map fun p => p.1.tv p.2) := by
    rcases hl with z | z
    · exact .inl (g0 _ _ z)
    · exact .inr z
  have ec : ((hs.map (·.1)).map Hn.hd).map hv = (hs.map (·.1.hd)).map hv := by simp [List.map_map, Function.comp_def]
  have en : (hs.map (·.1)).map (·.name) = hs.map (·.1.name) := by rw [List.map_map]; rfl
  refine c_needh hK hS (by (first | lia | omega)) hh' (by (first | lia | omega)) (T.grow g0) lg fun ca σ1 g1 hca1 hca2 => ?_
  rw [← ec] at hca2
  have M1 := M0.add g1 hca1 hca2
  have t1 := M1.get 1 rfl
  have t2 := M1.get 2 rfl
  repeat k_extra "m"
  have M2 := M1.set 2 (.sd [("cast", .ref ca)]) rfl
  have G2 : Grow σ (σ1.upd dx (.sd [("cast", .ref ca)])) := (g0.trans g1).upd hd
  generalize hσ2 : Store.upd σ1 dx _ = σ2 at M2 G2 ⊢
  have t1 := M2.get 1 rfl
  have t2 := M2.get 2 rfl
  repeat k_extra "m"
  refine c_needn hK (by (first | lia | omega)) hh' (by (first | lia | omega)) (M2.get 0 rfl) (G2 _ _ hl2) (by simp; have := T.len; (first | lia | omega)) hz2 nd (by rw [en]; exact hsub) (by rw [en]; exact ok) fun po σ3 g3 hpo1 hpo2 => ?_
  have M3 := M2.add g3 hpo1 hpo2
  have t1 := M3.get 2 rfl
  have t2 := M3.get 3 rfl
  repeat k_extra "m"
  have M4 := (M3.set 3 (.sd [("cast", .ref ca), ("posts", .ref po)]) rfl).set 3 (.sd [("cast", .ref ca), ("posts", .ref po), ("time", .int 0)]) rfl
  have G4 := ((G2.trans g3).upd (a := dx) (o := .sd [("cast", .ref ca), ("posts", .ref po)]) hd).upd (a := dx) (o := .sd [("cast", .ref ca), ("posts", .ref po), ("time", .int 0)]) hd
  intro ev hev
  generalize hσ4 : Store.upd (Store.upd σ3 dx _) dx _ = σ4 at M4 G4 hev ⊢
  have M5 := M4.new (.list []) hev
  have G5 := G4.fresh (o := .list []) hev
  generalize hσ5 : Store.upd σ4 ev _ = σ5 at M5 G5 ⊢
  have t1 := M5.get 3 rfl
  have t2 := M5.get 4 rfl
  repeat k_extra "m"
  have M6 := M5.set 4 (.sd [("cast", .ref ca), ("posts", .ref po), ("time", .int 0), ("events", .ref ev)]) rfl
  have G6 := G5.upd (a := dx) (o := .sd [("cast", .ref ca), ("posts", .ref po), ("time", .int 0), ("events", .ref ev)]) hd
  intro lo hlo
  generalize hσ6 : Store.upd σ5 dx _ = σ6 at M6 G6 hlo ⊢
  have M7 := M6.new (.list []) hlo
  have G7 := G6.fresh (o := .list []) hlo
  generalize hσ7 : Store.upd σ6 lo _ = σ7 at M7 G7 ⊢
  have t1 := M7.get 4 rfl
  have t2 := M7.get 5 rfl
  repeat k_extra "m"
  have M8 := M7.set 5 (.sd [("cast", .ref ca), ("posts", .ref po), ("time", .int 0), ("events", .ref ev), ("log", .ref lo)]) rfl
  have G8 := G7.upd (a := dx) (o := .sd [("cast", .ref ca), ("posts", .ref po), ("time", .int 0), ("events", .ref ev), ("log", .ref lo)]) hd
  generalize hσ8 : Store.upd σ7 dx _ = σ8 at M8 G8 ⊢
  refine c_Waits hK (by (first | lia | omega)) hh' fun wa wd nn ff σ9 g9 z1 z2 z3 z4 W9 => ?_
  obtain ⟨n1, n2, n3, n4, n5⟩ := W9.ne
  have M9 := M8.addL (l2 := [(wa, .inst 191 wd), (wd, .sd [("near", .ref nn), ("far", .ref ff)]), (nn, .list []), (ff, .list [])]) g9 (by simp [n1, n2, n3, n4, n5, W9.nf]) (by simp [z1, z2, z3, z4]) (by
    simp only [List.mem_cons, List.not_mem_nil, or_false]
    rintro p (rfl | rfl | rfl | rfl)
    · exact W9.hw
    · exact W9.hd
    · exact W9.hn
    · exact W9.hf)
  have G9 := G8.trans g9
  have t1 := M9.get 8 rfl
  have t2 := M9.get 9 rfl
  repeat k_extra "m"
  have M10 := M9.set 9 (.sd [("cast", .ref ca), ("posts", .ref po), ("time", .int 0), ("events", .ref ev), ("log", .ref lo), ("waits", .ref wa)]) rfl
  have G10 := G9.upd (a := dx) (o := .sd [("cast", .ref ca), ("posts", .ref po), ("time", .int 0), ("events", .ref ev), ("log", .ref lo), ("waits", .ref wa)]) hd
  intro fr hfr
  generalize hσ10 : Store.upd σ9 dx _ = σ10 at M10 G10 hfr ⊢
  have M11 := M10.new (.list []) hfr
  have G11 := G10.fresh (o := .list []) hfr
  generalize hσ11 : Store.upd σ10 fr _ = σ11 at M11 G11 ⊢
  have t1 := M11.get 9 rfl
  have t2 := M11.get 10 rfl
  repeat k_extra "m"
  refine h ⟨w, dx, ca, po, ev, lo, wa, wd, nn, ff, fr⟩ _ ⟨?_, rfl⟩ ((G11.upd hd).upd hd) hw
  have M12 := (M11.set 10 (.sd [("cast", .ref ca), ("posts", .ref po), ("time", .int 0), ("events", .ref ev), ("log", .ref lo), ("waits", .ref wa), ("frames", .ref fr)]) rfl).set 10 (.sd [("cast", .ref ca), ("posts", .ref po), ("time", .int 0), ("events", .ref ev), ("log", .ref lo), ("waits", .ref wa), ("frames", .ref fr), ("fresh", .none)]) rfl
  exact M12.perm (List.Perm.append_right rest (List.Perm.symm (perm_rev [_] (perm_rev [_, _, _, _] (perm_rev [_] (perm_rev [_] (perm_rev [_] (perm_rev [_] (perm_rev [_, _] (.refl [_])))))))))) 

theorem c_told (hK : C.K = KL C.w.params) {l : Addr} {cs : List Int} {i : Nat} {Q : V → Store → Prop} (hr : A.depth < recursionLimit) (hh : A.handled = none) (hl : LstAt C σ l (cs.map V.int)) (hz : cs.length ≤ 1000) (hi : i ≤ 1000) (h : Q (.int (cs.getD i 0)) σ) : CallWP C A (.ref 333) [.ref l, .int i] σ Q X := by
  k_extra "mdef2"
  intro L A' a1 a2 a3
  have hh' : A'.handled = none := a1.trans hh
  repeat k_extra "m"
  by_cases q : i < cs.length
  · refine Br.f (by simp; (first | lia | omega)) ?_
    repeat k_extra "m"
    refine ItemWP.list (y := .int (cs.getD i 0)) hl (by (first | lia | omega)) (by (first | lia | omega)) (by simp [q]) ?_
    repeat k_extra "m"
    exact h
  · refine Br.t (by simp; (first | lia | omega)) ?_
    repeat k_extra "m"
    have e : cs.getD i 0 = 0 := by simp [Nat.le_of_not_lt q]
    rw [e] at h; exact h

theorem c_mixed (hK : C.K = KL C.w.params) {c k m : Int} {Q : V → Store → Prop} (hr : A.depth < recursionLimit) (hh : A.handled = none) (hm : 0 < m) (h : ∀ (r : Int) (σ' : Store), Grow σ σ' → 0 ≤ r → r < m → Q (.int r) σ') : CallWP C A (.ref 340) [.int c, .int k, .int m] σ Q X := by
  k_extra "mdef3"
  intro L A' a1 a2 a3
  have hh' : A'.handled = none := a1.trans hh
  repeat k_extra "m"
  intro a ha
  repeat k_extra "m"
  have b0 : 0 ≤ k.fmod 7 := Int.fmod_nonneg_of_pos _ (by (first | lia | omega))
  have b1 : k.fmod 7 < 7 := Int.fmod_lt_of_pos _ (by (first | lia | omega))
  have pr : ∀ j : Nat, j < 7 → ∃ p : Int, (([10007, 20011, 30011, 40009, 50021, 60013, 70001] : List Int).map V.int)[j]? = some (.int p) ∧ p ≠ 0 := fun j hj =>
    ⟨([10007, 20011, 30011, 40009, 50021, 60013, 70001] : List Int)[j]'hj, by rw [List.getElem?_map, List.getElem?_eq_getElem hj]; rfl, (by decide : ∀ x ∈ ([10007, 20011, 30011, 40009, 50021, 60013, 70001] : List Int), x ≠ 0) _ (List.getElem_mem hj)⟩
  obtain ⟨p, hp, hp0⟩ := pr (k.fmod 7).toNat (by (first | lia | omega))
  refine ItemWP.list (y := .int p) (.inl Store.hit) b0 (by (first | lia | omega)) hp ?_
  refine BinWP.fmod_int hp0 ?_
  repeat k_extra "m"
  refine BinWP.fmod_int (by (first | lia | omega)) ?_
  repeat k_extra "m"
  exact h _ _ (Grow.rfl'.fresh ha) (Int.fmod_nonneg_of_pos _ hm) (Int.fmod_lt_of_pos _ hm)

def letS (j : Nat) : Str := ⟨#[97 + j]⟩
theorem let26 : ∀ j, j < 26 → (Str.ofString "abcdefghijklmnopqrstuvwxyz").cps[j]? = some (97 + j) := by decide +kernel
theorem len26 : (Str.ofString "abcdefghijklmnopqrstuvwxyz").length = 26 := by decide +kernel
theorem ItemWP.letter {i : Int} {Q : V → Store → Prop} (h0 : 0 ≤ i) (h1 : i < 26) (h : Q (.str (letS i.toNat)) σ) : ItemWP C A (.str (Str.ofString "abcdefghijklmnopqrstuvwxyz")) (.int i) σ Q X := by
  refine ItemWP.str (by (first | lia | omega)) (by (first | lia | omega)) ?_ h
  rw [len26, seqIndex_of h0 (by (first | lia | omega))]
  exact let26 _ (by (first | lia | omega))
theorem letS_len (j : Nat) : (letS j).length = 1 := rfl
theorem str_len_append (x y : Str) : (x ++ y).length = x.length + y.length := by
  show (x.cps ++ y.cps).size = _
  simp [Str.length]
theorem inS_abc : ∀ j, j < 26 → inS (Str.ofString "abcdefghijklmnopqrstuvwxyz") ⟨#[97 + j]⟩ = true := by decide +kernel
theorem okS_of {x : Str} (h : ∀ c ∈ x.cps.toList, 97 ≤ c ∧ c < 123) : okS x = true := by
  unfold okS
  rw [List.all_map, List.all_eq_true]
  intro c hc
  obtain ⟨a, b⟩ := h c hc
  obtain ⟨j, rfl⟩ : ∃ j, c = 97 + j := ⟨c - 97, by (first | lia | omega)⟩
  exact inS_abc j (by (first | lia | omega))
abbrev aheadS : Str := Str.ofString "zyxwvutsrq"
abbrev behindS : Str := Str.ofString "abcdefghij"
theorem ahead_len : aheadS.length = 10 := by decide +kernel
theorem behind_len : behindS.length = 10 := by decide +kernel
theorem ahead_ok : ∀ c ∈ aheadS.cps.toList, 97 ≤ c ∧ c < 123 := by decide +kernel
theorem behind_ok : ∀ c ∈ behindS.cps.toList, 97 ≤ c ∧ c < 123 := by decide +kernel
/-- the name of handler k of c -/
def nameN (c k : Nat) : Str := Txt.slice (Txt.slice aheadS none (some ((c * 7 % 11 : Nat) : Int)) ++ (letS (k * 7 % 26) ++ letS (k / 26)) ++ Txt.slice behindS none (some ((c * 5 % 11 : Nat) : Int))) none (some ((12 : Nat) : Int))
theorem strLen (x : Str) : x.length = x.cps.toList.length := by simp [Str.length]
theorem slice_take (x : Str) (k : Nat) : (Txt.slice x none (some (k : Int))).cps.toList = x.cps.toList.take k := by
  by_cases h : k ≤ x.length
  · exact slice_upto x k h
  · have e : Builtin.Str.strSliceIndices none (some (k : Int)) 1 x.length = (List.range x.length).map fun i => 0 + i := by
      unfold Builtin.Str.strSliceIndices
      have h1 : ¬ ((k : Int) < 0) := by (first | lia | omega)
      have h2 : max 0 (min (k : Int) (x.length : Int)) = ((x.length : Nat) : Int) := by (first | lia | omega)
      simp only [h1, if_false, show (1 : Int) > 0 by decide, if_true, h2]
      have := sliceRange_one 0 x.length
      simpa using this
    rw [slice_cps x none (some (k : Int)) 0 x.length (by (first | lia | omega)) e, List.drop_zero, strLen, List.take_of_length_le (Nat.le_refl _), List.take_of_length_le (by rw [← strLen]; (first | lia | omega))]
theorem nameN_cps (c k : Nat) : (nameN c k).cps.toList = (aheadS.cps.toList.take (c * 7 % 11) ++ [97 + k * 7 % 26, 97 + k / 26] ++ behindS.cps.toList.take (c * 5 % 11)).take 12 := by
  unfold nameN
  rw [slice_take, cps_append, cps_append, slice_take, slice_take, cps_append]
  rfl
theorem nameN_cut (c k : Nat) : (nameN c k).cps.toList = aheadS.cps.toList.take (c * 7 % 11) ++ ([97 + k * 7 % 26, 97 + k / 26] ++ (behindS.cps.toList.take (c * 5 % 11)).take (12 - (c * 7 % 11 + 2))) := by
  have h1 := ahead_len
  rw [strLen] at h1
  have h2 : (aheadS.cps.toList.take (c * 7 % 11)).length = c * 7 % 11 := by rw [List.length_take, h1]; (first | lia | omega)
  have t1 : (aheadS.cps.toList.take (c * 7 % 11)).take 12 = aheadS.cps.toList.take (c * 7 % 11) := List.take_of_length_le (by rw [h2]; (first | lia | omega))
  have t2 : ([97 + k * 7 % 26, 97 + k / 26] ++ behindS.cps.toList.take (c * 5 % 11)).take (12 - c * 7 % 11) = [97 + k * 7 % 26, 97 + k / 26] ++ (behindS.cps.toList.take (c * 5 % 11)).take (12 - (c * 7 % 11 + 2)) := by
    rw [List.take_append, List.take_of_length_le (l := [97 + k * 7 % 26, 97 + k / 26]) (by simp; (first | lia | omega))]
    rw [show 12 - c * 7 % 11 - [97 + k * 7 % 26, 97 + k / 26].length = 12 - (c * 7 % 11 + 2) by simp; omega]
  rw [nameN_cps, List.append_assoc, List.take_append, t1, h2, t2]
theorem nameN_inj {c j k : Nat} (hj : j < 182) (hk : k < 182) (h : nameN c j = nameN c k) : j = k := by
  have e := congrArg (fun x : Str => x.cps.toList) h
  simp only [nameN_cut] at e
  have e2 := List.append_cancel_left e
  have e3 := List.append_cancel_right e2
  simp only [List.cons.injEq, and_true] at e3
  obtain ⟨e4, e5⟩ := e3
  (first | lia | omega)
theorem nameN_isW (c k : Nat) (hk : k < 676) : isW (nameN c k) = true := by
  have h1 := ahead_len
  rw [strLen] at h1
  have l : (nameN c k).length = c * 7 % 11 + 2 + min (12 - (c * 7 % 11 + 2)) (min (c * 5 % 11) 10) := by
    have h2 := behind_len
    rw [strLen] at h2
    rw [strLen, nameN_cut]
    simp only [List.length_append, List.length_take, List.length_cons, List.length_nil, h1, h2]
    (first | lia | omega)
  have o : okS (nameN c k) = true := by
    refine okS_of fun x hx => ?_
    rw [nameN_cut] at hx
    simp only [List.mem_append, List.mem_cons, List.not_mem_nil, or_false] at hx
    rcases hx with h | (h | h) | h
    · exact ahead_ok x (List.mem_of_mem_take h)
    · (first | lia | omega)
    · (first | lia | omega)
    · exact behind_ok x (List.mem_of_mem_take (List.mem_of_mem_take h))
  unfold isW
  rw [o, l]
  simp only [Bool.and_true, Bool.and_eq_true, decide_eq_true_eq]
  (first | lia | omega)
theorem nameN_ok (c k : Nat) (hk : k < 676) : PyData.strOk (nameN c k) = true := by
  rw [strOk_iff]
  intro x hx
  rw [nameN_cut] at hx
  simp only [List.mem_append, List.mem_cons, List.not_mem_nil, or_false] at hx
  rcases hx with h | (h | h) | h
  · have := ahead_ok x (List.mem_of_mem_take h); (first | lia | omega)
  · (first | lia | omega)
  · (first | lia | omega)
  · have := behind_ok x (List.mem_of_mem_take (List.mem_of_mem_take h)); (first | lia | omega)
theorem c_name2 (hK : C.K = KL C.w.params) {c k : Nat} {Q : V → Store → Prop} (hr : A.depth < recursionLimit) (hh : A.handled = none) (hk : k < 676) (hc : c ≤ 1000) (h : Q (.str (nameN c k)) σ) : CallWP C A (.ref 347) [.int k, .int c] σ Q X := by
  k_extra "mdef2"
  intro L A' a1 a2 a3
  have hh' : A'.handled = none := a1.trans hh
  have b0 : ((k : Int) * 7).fmod 26 = ((k * 7 % 26 : Nat) : Int) := by rw [Int.fmod_eq_emod_of_nonneg _ (by (first | lia | omega))]; (first | lia | omega)
  have b1 : (k : Int).fdiv 26 = ((k / 26 : Nat) : Int) := by rw [Int.fdiv_eq_ediv_of_nonneg _ (by (first | lia | omega))]; (first | lia | omega)
  have b2 : ((c : Int) * 7).fmod 11 = ((c * 7 % 11 : Nat) : Int) := by rw [Int.fmod_eq_emod_of_nonneg _ (by (first | lia | omega))]; (first | lia | omega)
  have b3 : ((c : Int) * 5).fmod 11 = ((c * 5 % 11 : Nat) : Int) := by rw [Int.fmod_eq_emod_of_nonneg _ (by (first | lia | omega))]; (first | lia | omega)
  repeat k_extra "m"
  rw [b0]
  refine ItemWP.letter (by (first | lia | omega)) (by (first | lia | omega)) ?_
  repeat k_extra "m"
  rw [b1]
  refine ItemWP.letter (by (first | lia | omega)) (by (first | lia | omega)) ?_
  refine BinWP.add_str ?_ (by simp [letS_len, sizeLine_eq])
  repeat k_extra "m"
  refine ⟨_, rfl, ?_⟩
  rw [b2]
  refine SliceWP.str (by rw [sizeLine_eq, ahead_len]; (first | lia | omega)) ?_
  repeat k_extra "m"
  have l1 : (Txt.slice (Str.ofString "zyxwvutsrq") none (some ((c * 7 % 11 : Nat) : Int))).length ≤ 10 := by
    have := Txt.slice_le aheadS none (some ((c * 7 % 11 : Nat) : Int)); rw [ahead_len] at this; exact this
  have l2 : (Txt.slice (Str.ofString "abcdefghij") none (some ((c * 5 % 11 : Nat) : Int))).length ≤ 10 := by
    have := Txt.slice_le behindS none (some ((c * 5 % 11 : Nat) : Int)); rw [behind_len] at this; exact this
  refine BinWP.add_str ?_ (by rw [str_len_append, letS_len, letS_len, sizeLine_eq]; (first | lia | omega))
  repeat k_extra "m"
  refine ⟨_, rfl, ?_⟩
  rw [b3]
  refine SliceWP.str (by rw [sizeLine_eq, behind_len]; (first | lia | omega)) ?_
  refine BinWP.add_str ?_ (by rw [str_len_append, str_len_append, letS_len, letS_len, sizeLine_eq]; (first | lia | omega))
  repeat k_extra "m"
  refine ⟨_, rfl, ?_⟩
  refine SliceWP.str ?_ ?_
  · simp only [sizeLine_eq, str_len_append, letS_len]; (first | lia | omega)
  repeat k_extra "m"
  have e5 : (((k / 26 : Nat) : Int)).toNat = k / 26 := by (first | lia | omega)
  have e6 : (((k * 7 % 26 : Nat) : Int)).toNat = k * 7 % 26 := by (first | lia | omega)
  rw [e5, e6]
  exact h

theorem c_standing (hK : C.K = KL C.w.params) {a : LA} {fs : List FA} {cast : List Hn} {s : LS} {rest : List (Addr × O)} {Q : V → Store → Prop} (hr : A.depth < recursionLimit) (hh : A.handled = none) (L : LAt σ a fs cast s rest) (Z : s.posts.length ≤ 60)
    (h : ∀ x σ', σ x = none → LAt σ' a fs cast s ((x, .list (s.posts.map V.str)) :: rest) → Grow σ σ' → Q (.ref x) σ') : CallWP C A (.ref 312) [.ref a.lo] σ Q X := by
  have g1 := L.led.get 1 rfl
  have g2 := L.led.get 2 rfl
  have g4 := L.led.get 4 rfl
  k_extra "mdef1"
  intro fL A' a1 a2 a3
  have hh' : A'.handled = none := a1.trans hh
  repeat k_extra "m"
  intro x hx
  repeat k_extra "m"
  refine h x _ hx ⟨?_, L.len⟩ (Grow.rfl'.fresh hx)
  exact (L.led.new _ hx).perm (List.perm_middle (l₁ := tabE :: fp a fs cast s))

/- law 06: the law's own book beside the loom -/
def nmA (cast : List Hn) (k : Nat) : Str := ((cast[k]?).map (·.name)).getD Str.empty
def rkA (cast : List Hn) (k : Nat) : Int := ((cast[k]?).map (·.rank)).getD 0
def hearsW (w : Str) (h : Hn) : Bool := h.hears == Str.ofString "" || h.hears == w
def okAt (cast : List Hn) (gone : List Str) (w : Str) (k : Nat) : Bool := match cast[k]? with
  | some h => hearsW w h && !gone.contains h.name
  | none => false
/-- the places of those who are due, in order -/
structure Due (cast : List Hn) (gone : List Str) (w : Str) (ks : List Nat) : Prop where
  perm : ks.Perm ((List.range cast.length).filter (okAt cast gone w))
  srt : ks.Pairwise fun i j => rkA cast i < rkA cast j ∨ (rkA cast i = rkA cast j ∧ i < j)
/-- those who are left -/
def leftF (cast : List Hn) (gone : List Str) : List Str := (cast.filter fun h => !gone.contains h.name).map (·.name)
theorem idx_mono {J : List Nat} (hJ : J.Pairwise (· < ·)) {a b : Nat} (ha : a ∈ J) (hb : b ∈ J) (h : a < b) : J.idxOf a < J.idxOf b := by
  have la := List.idxOf_lt_length_of_mem ha
  have lb := List.idxOf_lt_length_of_mem hb
  have ea : J[J.idxOf a] = a := List.getElem_idxOf la
  have eb : J[J.idxOf b] = b := List.getElem_idxOf lb
  rcases Nat.lt_trichotomy (J.idxOf a) (J.idxOf b) with q | q | q
  · exact q
  · have : a = b := by rw [← ea, ← eb]; simp only [q]
    (first | lia | omega)
  · have := List.pairwise_iff_getElem.mp hJ _ _ lb la q
    (first | lia | omega)
theorem idx_range {J : List Nat} (hJ : J.Pairwise (· < ·)) : J.map (J.idxOf ·) = List.range J.length := by
  refine List.ext_getElem (by simp) fun i h1 h2 => ?_
  simp only [List.length_map] at h1
  simp only [List.getElem_map, List.getElem_range]
  have la : J.idxOf J[i] < J.length := List.idxOf_lt_length_of_mem (List.getElem_mem h1)
  have ea : J[J.idxOf J[i]] = J[i] := List.getElem_idxOf la
  rcases Nat.lt_trichotomy (J.idxOf J[i]) i with q | q | q
  · have := List.pairwise_iff_getElem.mp hJ _ _ la h1 q
    (first | lia | omega)
  · exact q
  · have := List.pairwise_iff_getElem.mp hJ _ _ h1 la q
    (first | lia | omega)
theorem filter_places {α β : Type} (f : α → β) (p : α → Bool) (g : Nat → β) (q : Nat → Bool) : ∀ (l : List α) (o : Nat), (∀ i x, l[i]? = some x → g (o + i) = f x ∧ q (o + i) = p x) → (l.filter p).map f = ((List.range' o l.length).filter q).map g
  | [], _, _ => rfl
  | x :: l, o, h => by
    have h0 := h 0 x rfl
    simp only [Nat.add_zero] at h0
    have ih := filter_places f p g q l (o + 1) fun i y hy => by
      have := h (i + 1) y (by simpa using hy)
      rwa [show o + (i + 1) = o + 1 + i by omega] at this
    rw [List.length_cons, List.range'_succ, List.filter_cons, List.filter_cons, h0.2]
    split
    · rw [List.map_cons, List.map_cons, h0.1, ih]
    · exact ih
theorem hrs_of {cast : List Hn} (K : COk cast) {h : Hn} (hm : h ∈ cast) : hrs (cast.map Hn.hd) h.name = h.hears ∧ rk (cast.map Hn.hd) h.name = h.rank := by
  have e := hdOf_mem (h := h.hd) K.nd' (List.mem_map_of_mem hm)
  have e' : hdOf (cast.map Hn.hd) h.name = some h.hd := e
  unfold hrs rk
  rw [e']
  exact ⟨rfl, rfl⟩
theorem found_left {cast : List Hn} (K : COk cast) (gone : List Str) (w : Str) : foundF (cast.map Hn.hd) (leftF cast gone) w = ((List.range cast.length).filter (okAt cast gone w)).map (nmA cast) := by
  unfold foundF leftF
  rw [List.filter_map, List.filter_filter]
  have e : (cast.filter fun h => ((fun n => (hrs (cast.map Hn.hd) n == Str.ofString "") || (hrs (cast.map Hn.hd) n == w)) ∘ (·.name)) h && !gone.contains h.name) = cast.filter fun h => hearsW w h && !gone.contains h.name := by
    refine List.filter_congr fun h hm => ?_
    simp only [Function.comp_apply, (hrs_of K hm).1, hearsW]
  rw [e, List.range_eq_range']
  exact filter_places (·.name) (fun h => hearsW w h && !gone.contains h.name) (nmA cast) (okAt cast gone w) cast 0 fun i x hx => by
    rw [Nat.zero_add]
    unfold nmA okAt
    rw [hx]
    exact ⟨rfl, rfl⟩
theorem Due.heard {cast : List Hn} (K : COk cast) {gone : List Str} {w : Str} {ks : List Nat} (D : Due cast gone w ks) : ks.map (nmA cast) = heard cast (leftF cast gone) w := by
  refine heard_eq ?_
  have hF := found_left K gone w
  generalize hJ : (List.range cast.length).filter (okAt cast gone w) = J at hF
  have hp := D.perm
  rw [hJ] at hp
  have sJ : J.Pairwise (· < ·) := by rw [← hJ]; exact List.pairwise_lt_range.filter _
  have mJ : ∀ k ∈ J, k < cast.length := fun k hk => by
    rw [← hJ] at hk
    exact List.mem_range.mp (List.mem_filter.mp hk).1
  have lF : (foundF (cast.map Hn.hd) (leftF cast gone) w).length = J.length := by rw [hF, List.length_map]
  have gF : ∀ k ∈ J, (foundF (cast.map Hn.hd) (leftF cast gone) w).getD (J.idxOf k) Str.empty = nmA cast k := fun k hk => by
    have lk := List.idxOf_lt_length_of_mem hk
    rw [hF, List.getD_eq_getElem?_getD, List.getElem?_map, List.getElem?_eq_getElem lk, List.getElem_idxOf lk]
    rfl
  have rF : ∀ k ∈ J, rk (cast.map Hn.hd) (nmA cast k) = rkA cast k := fun k hk => by
    have lk := mJ k hk
    unfold nmA rkA
    rw [List.getElem?_eq_getElem lk]
    exact (hrs_of K (List.getElem_mem lk)).2
  refine ⟨ks.map (J.idxOf ·), ?_, ?_, ?_⟩
  · rw [lF, ← idx_range sJ]
    exact hp.map _
  · rw [List.pairwise_map]
    refine D.srt.imp_of_mem fun {a b} ha hb h => ?_
    have ha := hp.mem_iff.mp ha
    have hb := hp.mem_iff.mp hb
    unfold slt
    dsimp only
    rw [gF a ha, gF b hb, rF a ha, rF b hb]
    simp only [decide_eq_true_eq, decide_eq_false_iff_not]
    rcases h with h | ⟨h, h2⟩
    · exact .inl h
    · exact .inr ⟨by (first | lia | omega), idx_mono sJ ha hb h2⟩
  · rw [List.map_map]
    refine List.map_congr_left fun k hk => ?_
    exact (gF k (hp.mem_iff.mp hk)).symm
/-- the law's own book -/
structure Book where
  rows : List Row
  line : List (Int × Str)
  log : List Row
  gone : List Str
def onceF (cast : List Hn) (n : Str) : Bool := ((cast.find? fun h => h.name == n).map (·.once)).getD false
noncomputable def Book.step (cast : List Hn) (o : Book) : Option Book := match o.rows with
  | r :: rs => some { o with rows := rs, log := o.log ++ [r] }
  | [] => match o.line with
    | p :: l => some { rows := (heard cast (leftF cast o.gone) p.2).map (Row.call p.1) ++ [.fin p.1], line := l, log := o.log ++ [.beg p.1 0], gone := o.gone ++ (heard cast (leftF cast o.gone) p.2).filter (onceF cast) }
    | [] => none
noncomputable def Book.runs (cast : List Hn) : Nat → Book → Nat × Book
  | 0, o => (0, o)
  | k + 1, o => match o.step cast with
    | none => (0, o)
    | some o' => ((Book.runs cast k o').1 + 1, (Book.runs cast k o').2)
def calledF (l : List Row) : List Str := l.filterMap fun r => match r with | .call _ h => some h | _ => none
theorem heard_sub {cast : List Hn} (K : COk cast) (gone : List Str) (w : Str) : (heard cast (leftF cast gone) w).Nodup ∧ ∀ n ∈ heard cast (leftF cast gone) w, n ∈ cast.map (·.name) ∧ n ∉ gone := by
  have hp : ∀ l : List Nat, ∃ ks : List Nat, ks.Perm l ∧ ks.Pairwise fun i j => rkA cast i < rkA cast j ∨ (rkA cast i = rkA cast j ∧ i ≤ j) := by
    intro l
    refine ⟨l.mergeSort fun i j => decide (rkA cast i < rkA cast j ∨ (rkA cast i = rkA cast j ∧ i ≤ j)), List.mergeSort_perm .., ?_⟩
    have := List.pairwise_mergeSort (le := fun i j => decide (rkA cast i < rkA cast j ∨ (rkA cast i = rkA cast j ∧ i ≤ j))) (fun a b c h1 h2 => by simp only [decide_eq_true_eq] at *; (first | lia | omega)) (fun a b => by simp only [Bool.or_eq_true, decide_eq_true_eq]; (first | lia | omega)) l
    exact this.imp fun h => by simpa using h
  obtain ⟨ks, p1, p2⟩ := hp ((List.range cast.length).filter (okAt cast gone w))
  have nd : ks.Nodup := p1.nodup_iff.mpr (List.nodup_range.filter _)
  have D : Due cast gone w ks := ⟨p1, (p2.and nd).imp fun {i j} h => by (first | lia | omega)⟩
  rw [← D.heard K]
  have mk : ∀ k ∈ ks, ∃ h, cast[k]? = some h ∧ nmA cast k = h.name ∧ h.name ∉ gone := fun k hk => by
    have := (List.mem_filter.mp (p1.mem_iff.mp hk)).2
    unfold okAt at this
    split at this
    · rename_i h e
      refine ⟨h, e, by simp [nmA, e], ?_⟩
      simpa using (Bool.and_eq_true_iff.mp this).2
    · cases this
  constructor
  · refine List.pairwise_map.mpr (nd.imp_of_mem fun {i j} hi hj hne e => ?_)
    obtain ⟨h1, e1, e2, _⟩ := mk i hi
    obtain ⟨h2, e3, e4, _⟩ := mk j hj
    obtain ⟨l1, g1⟩ := List.getElem?_eq_some_iff.mp e1
    obtain ⟨l2, g2⟩ := List.getElem?_eq_some_iff.mp e3
    have ne : ∀ a b (la : a < cast.length) (lb : b < cast.length), a < b → cast[a].name ≠ cast[b].name := fun a b la lb hab => by
      have := List.pairwise_iff_getElem.mp K.nd a b (by simpa using la) (by simpa using lb) hab
      simpa using this
    rw [e2, e4, ← g1, ← g2] at e
    rcases Nat.lt_trichotomy i j with q | q | q
    · exact ne i j l1 l2 q e
    · exact hne q
    · exact ne j i l2 l1 q e.symm
  · intro n hn
    obtain ⟨k, hk, rfl⟩ := List.mem_map.mp hn
    obtain ⟨h, e1, e2, e3⟩ := mk k hk
    rw [e2]
    exact ⟨List.mem_map_of_mem (List.mem_of_getElem? e1), e3⟩

theorem len_of_sub : ∀ {l m : List Str}, l.Nodup → (∀ x ∈ l, x ∈ m) → l.length ≤ m.length
  | [], _, _, _ => Nat.zero_le _
  | x :: l, m, nd, h => by
    rw [List.nodup_cons] at nd
    have hx := h x (.head _)
    have := len_of_sub (l := l) (m := m.erase x) nd.2 fun y hy => (List.mem_erase_of_ne (show y ≠ x from fun e => nd.1 (by rw [← e]; exact hy))).mpr (h y (.tail _ hy))
    rw [List.length_erase_of_mem hx] at this
    have := List.length_pos_of_mem hx
    simp; (first | lia | omega)
/-- the loom and the law's book go together -/
structure Cpl (cast : List Hn) (o : Book) (s : LS) : Prop where
  time : s.time = 0
  near : s.near = []
  fresh : s.fresh = none
  log : s.log = o.log
  far : s.far = o.line.map fun p => (0, p.1)
  ord : o.line.Pairwise fun p q => p.1 < q.1
  num : ∀ p ∈ o.line, 0 ≤ p.1 ∧ p.1 < s.events.length ∧ s.wordOf p.1 = p.2
  fr : (s.frames = [] ∧ o.rows = []) ∨ ∃ n cs, s.frames = [⟨n, cs, []⟩] ∧ o.rows = cs.map (Row.call n) ++ [.fin n] ∧ cs.Nodup ∧ ∀ c ∈ cs, c ∈ cast.map (·.name)
  posts : s.posts = (cast.filter fun h => !(h.once && (calledF s.log).contains h.name)).map (·.name)
  gone : ∀ x ∈ cast, (x.name ∈ o.gone ↔ x.once = true ∧ (x.name ∈ calledF s.log ∨ ∃ r ∈ s.frames, x.name ∈ r.calls))
  evw : ∀ e ∈ s.events, PyData.strOk e.word = true
theorem calledF_snoc (l : List Row) (r : Row) : calledF (l ++ [r]) = calledF l ++ (match r with | .call _ h => [h] | _ => []) := by
  unfold calledF
  rw [List.filterMap_append]
  cases r <;> rfl
theorem Cpl.left {cast : List Hn} {o : Book} {s : LS} (P : Cpl cast o s) (hf : s.frames = []) : s.posts = leftF cast o.gone := by
  rw [P.posts]
  unfold leftF
  congr 1
  refine List.filter_congr fun x hx => ?_
  have g := P.gone x hx
  rw [hf] at g
  simp only [List.not_mem_nil, false_and, exists_false, or_false] at g
  have e : (x.once && (calledF s.log).contains x.name) = o.gone.contains x.name := by
    rw [Bool.eq_iff_iff, Bool.and_eq_true_iff, List.contains_iff_mem, List.contains_iff_mem]
    exact g.symm
  rw [e]
theorem onceF_of {cast : List Hn} (K : COk cast) {h : Hn} (hm : h ∈ cast) : onceF cast h.name = h.once := by
  unfold onceF
  rw [find_name K hm]; rfl
/-- the book and the loom end together, or both go on -/
theorem Cpl.step {cast : List Hn} {o : Book} {s : LS} (K : COk cast) (hds : ∀ h ∈ cast, h.ds = []) (P : Cpl cast o s) :
    (o.step cast = none ∧ s.step cast = none) ∨ ∃ o' s', o.step cast = some o' ∧ s.step cast = some s' ∧ Cpl cast o' s' ∧ s'.events = s.events ∧ s'.log.length = s.log.length + 1 ∧ o'.gone.length ≤ o.gone.length + 60 := by
  rcases P.fr with ⟨f1, f2⟩ | ⟨n, cs, f1, f2, f3, f4⟩
  · cases hl : o.line with
    | nil =>
      left
      refine ⟨by unfold Book.step; rw [f2, hl], ?_⟩
      have hfar : s.far = [] := by rw [P.far, hl]; rfl
      unfold LS.step
      rw [P.fresh, f1, P.near, hfar]; rfl
    | cons p l =>
      right
      have hfar : s.far = (0, p.1) :: l.map fun p => (0, p.1) := by rw [P.far, hl]; rfl
      have ho := P.ord
      rw [hl, List.pairwise_cons] at ho
      have hm : minP s.far = some (0, p.1) := by
        rw [hfar]
        refine minP_eq (.head _) fun q hq => ?_
        rcases List.mem_cons.mp hq with rfl | hq
        · simp [lexlt]
        · obtain ⟨z, hz, rfl⟩ := List.mem_map.mp hq
          have := ho.1 z hz
          simp [lexlt]; (first | lia | omega)
      have hn := P.num p (by rw [hl]; exact .head _)
      have hleft := P.left f1
      have ee : s.far.erase (0, p.1) = l.map fun p => (0, p.1) := by rw [hfar]; simp
      have et : max s.time (0 : Int) = 0 := by rw [P.time]; rfl
      have hb : ∀ s1 : LS, s1.posts = s.posts → s1.events = s.events → LS.begins cast s1 p.1 = { s1 with frames := ⟨p.1, heard cast (leftF cast o.gone) p.2, []⟩ :: s1.frames, log := s1.log ++ [.beg p.1 s1.time] } := by
        intro s1 p1 p2
        have e1 : s1.wordOf p.1 = p.2 := by rw [← hn.2.2]; unfold LS.wordOf; rw [p2]
        have e2 : heard cast s1.posts (s1.wordOf p.1) = heard cast (leftF cast o.gone) p.2 := by rw [e1, p1, hleft]
        unfold LS.begins
        rw [e2]; rfl
      refine ⟨_, { s with near := [], fresh := none, far := l.map fun p => (0, p.1), time := 0, frames := [⟨p.1, heard cast (leftF cast o.gone) p.2, []⟩], log := s.log ++ [.beg p.1 0] }, by unfold Book.step; rw [f2, hl], ?_, ?_⟩
      · unfold LS.step
        rw [P.fresh, f1, P.near, hm]
        simp only [Option.some.injEq]
        rw [hb]
        · dsimp only
          rw [ee, et]
        · rfl
        · rfl
      have hs := heard_sub K o.gone p.2
      refine ⟨⟨rfl, rfl, rfl, by rw [P.log], rfl, ho.2, fun q hq => P.num q (by rw [hl]; exact .tail _ hq), .inr ⟨p.1, _, rfl, rfl, hs.1, fun c hc => (hs.2 c hc).1⟩, ?_, ?_, P.evw⟩, rfl, by simp, ?_⟩
      · show s.posts = _
        rw [calledF_snoc]
        simpa using P.posts
      · intro x hx
        have g := P.gone x hx
        rw [f1] at g
        simp only [List.not_mem_nil, false_and, exists_false, or_false] at g
        rw [calledF_snoc]
        simp only [List.append_nil, List.mem_singleton, exists_eq_left, List.mem_append, List.mem_filter, g, onceF_of K hx]
        constructor
        · rintro (⟨a, b⟩ | ⟨a, b⟩)
          · exact ⟨a, .inl b⟩
          · exact ⟨b, .inr a⟩
        · rintro ⟨a, b | b⟩
          · exact .inl ⟨a, b⟩
          · exact .inr ⟨b, a⟩
      · have h1 : (heard cast (leftF cast o.gone) p.2).length ≤ cast.length := by
          have := len_of_sub (m := cast.map (·.name)) hs.1 fun c hc => (hs.2 c hc).1
          simpa using this
        have h2 := List.length_filter_le (onceF cast) (heard cast (leftF cast o.gone) p.2)
        have h3 := K.len
        simp only [List.length_append]
        (first | lia | omega)
  · right
    cases cs with
    | nil =>
      refine ⟨_, _, by unfold Book.step; rw [f2]; rfl, by unfold LS.step; rw [P.fresh, f1], ?_⟩
      have e : s.goOn cast = { s with frames := [], log := s.log ++ [.fin n] } := by
        unfold LS.goOn; rw [f1]
      rw [e]
      refine ⟨⟨P.time, P.near, P.fresh, by rw [P.log], P.far, P.ord, P.num, .inl ⟨rfl, rfl⟩, ?_, ?_, P.evw⟩, rfl, by simp, by simp⟩
      · show s.posts = _
        rw [calledF_snoc]
        simpa using P.posts
      · intro x hx
        have g := P.gone x hx
        rw [f1] at g
        rw [calledF_snoc]
        simpa using g
    | cons c cs =>
      refine ⟨_, _, by unfold Book.step; rw [f2]; rfl, by unfold LS.step; rw [P.fresh, f1], ?_⟩
      obtain ⟨h, hm, rfl⟩ := List.mem_map.mp (f4 c (.head _))
      rw [List.nodup_cons] at f3
      have e : s.goOn cast = { s with posts := if h.once then s.posts.erase h.name else s.posts, frames := [⟨n, cs, []⟩], log := s.log ++ [.call n h.name] } := by
        unfold LS.goOn
        rw [f1]
        simp only [find_name K hm]
        unfold LS.callIn LS.got LS.setDeeds
        simp only [hds h hm]
        split
        · simp [LS.away, Frm.away, List.erase_of_not_mem f3.1]
        · rfl
      rw [e]
      refine ⟨⟨P.time, P.near, P.fresh, by rw [P.log], P.far, P.ord, P.num, .inr ⟨n, cs, rfl, rfl, f3.2, fun c hc => f4 c (.tail _ hc)⟩, ?_, ?_, P.evw⟩, rfl, by simp, by simp⟩
      · show (if h.once then s.posts.erase h.name else s.posts) = _
        rw [calledF_snoc, P.posts]
        have nd : ((cast.filter fun x => !(x.once && (calledF s.log).contains x.name)).map (·.name)).Nodup := K.nd.sublist (List.filter_sublist.map _)
        have ne : ∀ x ∈ cast, x.name = h.name → x = h := fun x hx e => K.one hx hm e
        split
        · rename_i ho
          rw [nd.erase_eq_filter, List.filter_map, List.filter_filter]
          congr 1
          refine List.filter_congr fun x hx => ?_
          simp only [Function.comp_apply]
          by_cases q : x.name = h.name
          · have := ne x hx q
            subst this
            simp [ho]
          · simp [q]
        · rename_i ho
          congr 1
          refine List.filter_congr fun x hx => ?_
          by_cases q : x.name = h.name
          · have := ne x hx q
            subst this
            simp [ho]
          · simp [q]
      · intro x hx
        have g := P.gone x hx
        rw [f1] at g
        rw [calledF_snoc, g]
        simp only [List.mem_append, List.mem_cons, List.not_mem_nil, or_false, exists_eq_left]
        constructor
        · rintro ⟨a, b | b | b⟩
          · exact ⟨a, .inl (.inl b)⟩
          · exact ⟨a, .inl (.inr b)⟩
          · exact ⟨a, .inr b⟩
        · rintro ⟨a, (b | b) | b⟩
          · exact ⟨a, .inl b⟩
          · exact ⟨a, .inr (.inl b)⟩
          · exact ⟨a, .inr (.inr b)⟩
theorem Cpl.runs {cast : List Hn} (K : COk cast) (hds : ∀ h ∈ cast, h.ds = []) : ∀ (k : Nat) {o : Book} {s : LS}, Cpl cast o s → (LS.runs cast k s).1 = (Book.runs cast k o).1 ∧ Cpl cast (Book.runs cast k o).2 (LS.runs cast k s).2
  | 0, o, s, P => ⟨rfl, P⟩
  | k + 1, o, s, P => by
    rcases P.step K hds with ⟨e1, e2⟩ | ⟨o', s', e1, e2, P', _⟩
    · rw [LS.runs_none e2, Book.runs, e1]
      exact ⟨rfl, P⟩
    · rw [LS.runs_some e2, Book.runs, e1]
      obtain ⟨a, b⟩ := Cpl.runs K hds k P'
      exact ⟨by rw [a], b⟩
theorem Cpl.send {cast : List Hn} {o : Book} {s : LS} {w : Str} (hw : PyData.strOk w = true) (P : Cpl cast o s) : Cpl cast { o with line := o.line ++ [((s.events.length : Int), w)], log := o.log ++ [.send s.events.length] } (s.send w) := by
  have ew : ∀ n : Int, 0 ≤ n → n < s.events.length → (s.send w).wordOf n = s.wordOf n := by
    intro n h0 h1
    unfold LS.wordOf LS.send
    simp only
    rw [List.getElem?_append_left (by (first | lia | omega))]
  refine ⟨P.time, P.near, P.fresh, by unfold LS.send; rw [P.log], ?_, ?_, ?_, P.fr, ?_, ?_, ?_⟩
  · unfold LS.send
    simp only [P.far, P.time, List.map_append, List.map_cons, List.map_nil]
  · rw [List.pairwise_append]
    refine ⟨P.ord, List.pairwise_singleton _ _, fun p hp q hq => ?_⟩
    rw [List.mem_singleton.mp hq]
    exact (P.num p hp).2.1
  · intro p hp
    have hl : (s.send w).events.length = s.events.length + 1 := by simp [LS.send]
    rw [hl]
    rcases List.mem_append.mp hp with hp | hp
    · obtain ⟨a, b, c⟩ := P.num p hp
      exact ⟨a, by (first | lia | omega), by rw [ew p.1 a b]; exact c⟩
    · rw [List.mem_singleton.mp hp]
      refine ⟨by simp, by simp; (first | lia | omega), ?_⟩
      simp [LS.wordOf, LS.send]
  · show s.posts = _
    unfold LS.send
    dsimp only
    rw [calledF_snoc]
    simpa using P.posts
  · intro x hx
    unfold LS.send
    dsimp only
    rw [calledF_snoc]
    simpa using P.gone x hx
  · intro e he
    unfold LS.send at he
    rcases List.mem_append.mp he with he | he
    · exact P.evw e he
    · rw [List.mem_singleton.mp he]; exact hw
theorem Cpl.start (cast : List Hn) : Cpl cast ⟨[], [], [], []⟩ (LS.new (cast.map (·.name))) := by
  refine ⟨rfl, rfl, rfl, rfl, rfl, List.Pairwise.nil, (fun p hp => by cases hp), .inl ⟨rfl, rfl⟩, ?_, ?_, (fun e he => by cases he)⟩
  · show cast.map (·.name) = _
    rw [List.filter_eq_self.mpr]
    intro x _
    simp [calledF, LS.new]
  · intro x hx
    simp [calledF, LS.new]

/-- the handlers that the law tells -/
structure HsT (σ : Store) (c : Nat) (x : Addr) (hs : List (Hn × V)) : Prop where
  nm : ∀ i p, hs[i]? = some p → p.1.name = nameN c i
  ds : ∀ p ∈ hs, p.1.ds = []
  hr : ∀ p ∈ hs, (p.1.hears = Str.ofString "" ∨ isW p.1.hears = true) ∧ PyData.strOk p.1.hears = true
  at_ : ∀ p ∈ hs, ∃ l, p.2 = .ref l ∧ l ≠ x ∧ σ l = some (.list [])
theorem pickHears : ∀ j : Nat, j < 4 → ∃ p : Str, ([V.str (Str.ofString ""), V.str (Str.ofString "bell"), V.str (Str.ofString "bull"), V.str (Str.ofString "bellbellbell")] : List V)[j]? = some (.str p) ∧ (p = Str.ofString "" ∨ isW p = true) ∧ PyData.strOk p = true := by
  intro j hj
  match j, hj with
  | 0, _ => exact ⟨_, rfl, .inl rfl, strOk_ofString _⟩
  | 1, _ => exact ⟨_, rfl, .inr (by decide +kernel), strOk_ofString _⟩
  | 2, _ => exact ⟨_, rfl, .inr (by decide +kernel), strOk_ofString _⟩
  | 3, _ => exact ⟨_, rfl, .inr (by decide +kernel), strOk_ofString _⟩
theorem c_handlers (hK : C.K = KL C.w.params) {l : Addr} {cs : List Int} {c : Nat} {Q : V → Store → Prop} (hr : A.depth + 1 < recursionLimit) (hh : A.handled = none) (hu : A.units < 6700) (hl : BaseL C l (cs.map V.int)) (hz : cs.length ≤ 63) (hc : c ≤ 40)
    (h : ∀ x σ' hs, Grow σ σ' → σ x = none → σ' x = some (.list (hs.map fun p => p.1.tv p.2)) → hs.length = c → HsT σ' c x hs → Q (.ref x) σ') : CallWP C A (.ref 354) [.ref l, .int c] σ Q X := by
  have hr0 : A.depth < recursionLimit := by (first | lia | omega)
  k_extra "mdef2"
  intro fL A' a1 a2 a3
  have hh' : A'.handled = none := a1.trans hh
  have hr' : A'.depth < recursionLimit := by (first | lia | omega)
  have hcs : cs.length ≤ 1000 := by (first | lia | omega)
  repeat k_extra "m"
  intro x hx
  repeat k_extra "m"
  refine ⟨_, _, ItV.rng hh' (by (first | lia | omega)) (by (first | lia | omega)) (by (first | lia | omega)) (by (first | lia | omega)), ?_⟩
  have er : irange 0 (c : Int) = (List.range' 0 c).map fun (i : Nat) => V.int (i : Int) := by
    unfold irange
    rw [List.range_eq_range']
    simp
  rw [er]
  refine ForL.inv (fun (i : Nat) => V.int (i : Int)) (fun rest ρ σ1 => ∃ hs : List (Hn × V), rest = List.range' hs.length (c - hs.length) ∧ hs.length ≤ c ∧ σ1 x = some (.list (hs.map fun p => p.1.tv p.2)) ∧ HsT σ1 c x hs ∧ Grow σ σ1 ∧ ρ.get "_law_found" = some (.ref x) ∧ ρ.get "_law_script" = some (.ref l) ∧ ρ.get "_law_count" = some (.int c)) ?_ ?_ _ _ _ ⟨[], by simp, by simp, Store.hit, ⟨by simp, by simp, by simp, by simp⟩, Grow.rfl'.fresh hx, by k_extra "mget", by k_extra "mget", by k_extra "mget"⟩
  · rintro i is ρ σ1 ⟨hs, e, hlen, f1, H, g1, r1, r2, r3⟩
    have hlt : hs.length < c := by
      cases z : c - hs.length with
      | zero => rw [z] at e; cases e
      | succ m => (first | lia | omega)
    rw [show c - hs.length = (c - (hs.length + 1)) + 1 by (first | lia | omega), List.range'_succ] at e
    obtain ⟨rfl, rfl⟩ := List.cons.inj e
    repeat k_extra "m"
    have e3 : (1 : Int) + (hs.length : Int) = ((1 + hs.length : Nat) : Int) := by (first | lia | omega)
    rw [e3]
    refine c_told hK hr' hh' (.inr hl) hcs (by (first | lia | omega)) ?_
    repeat k_extra "m"
    refine c_mixed hK hr' hh' (by decide) fun q1 σ2 g2 q10 q11 => ?_
    iterate 4 k_extra "m"
    refine Exs.cut (fun ρ' σ' => ∃ rank : Int, Grow σ2 σ' ∧ ρ'.get "_law_found" = some (.ref x) ∧ ρ'.get "_law_script" = some (.ref l) ∧ ρ'.get "_law_count" = some (.int c) ∧ ρ'.get "_law_k" = some (.int hs.length) ∧ ρ'.get "_law_rank" = some (.int rank) ∧ ∃ cell, ρ'.get "_law_cell" = some (.int cell)) ?_ ?_
    · repeat k_extra "m"
      refine c_mixed hK hr' hh' (by decide) fun q2 σ3 g3 q20 q21 => ?_
      repeat k_extra "m"
      refine Br.both ?_ ?_
      · repeat k_extra "m"
        exact ⟨rfl, _, g3, by k_extra "mget", by k_extra "mget", by k_extra "mget", by k_extra "mget", by k_extra "mget", _, by k_extra "mget"⟩
      · repeat k_extra "m"
        exact ⟨rfl, _, g3, by k_extra "mget", by k_extra "mget", by k_extra "mget", by k_extra "mget", by k_extra "mget", _, by k_extra "mget"⟩
    clear r1 r2 r3
    rintro ρ2 σ3 ⟨rank, g3, r1, r2, r3, r4, r5, cell, r6⟩
    repeat k_extra "m"
    intro hl4 hhl
    repeat k_extra "m"
    refine c_mixed hK hr' hh' (by decide) fun q3 σ4 g4 q30 q31 => ?_
    have hl4' := g4 _ _ (Store.hit (σ := σ3) (a := hl4) (o := .list [.str (Str.ofString ""), .str (Str.ofString "bell"), .str (Str.ofString "bull"), .str (Str.ofString "bellbellbell")]))
    obtain ⟨hp, php, phr⟩ := pickHears q3.toNat (by (first | lia | omega))
    refine ItemWP.list (y := .str hp) (.inl hl4') q30 (by (first | lia | omega)) php ?_
    have f4 := (g2.trans (g3.trans ((Grow.rfl'.fresh hhl).trans g4))) _ _ f1
    repeat k_extra "m"
    refine c_name2 (c := c) (k := hs.length) hK hr' hh' (by (first | lia | omega)) (by (first | lia | omega)) ?_
    repeat k_extra "m"
    refine c_mixed hK hr' hh' (by decide) fun q5 σ5 g5 q50 q51 => ?_
    repeat k_extra "m"
    intro dl hdl
    have G : Grow σ1 σ5 := (g2.trans g3).trans ((Grow.rfl'.fresh hhl).trans (g4.trans g5))
    have hdx : dl ≠ x := fun q => by
      have := G _ _ f1
      rw [← q, hdl] at this; cases this
    have f5 : (σ5.upd dl (.list [])) x = some (.list (hs.map fun p => p.1.tv p.2)) := Store.miss (Ne.symm hdx) (G _ _ f1)
    repeat k_extra "m"
    have G2 : Grow σ (σ5.upd dl (.list [])) := (g1.trans G).fresh hdl
    refine ⟨trivial, hs ++ [(⟨nameN c hs.length, rank, hp, q5 == 0, []⟩, .ref dl)], by simp, by simp; (first | lia | omega), ?_, ⟨?_, ?_, ?_, ?_⟩, G2.upd hx, by k_extra "mget", by k_extra "mget", by k_extra "mget"⟩
    · rw [Store.hit]; simp [Hn.tv]
    · intro i p hp
      by_cases hi : i < hs.length
      · rw [List.getElem?_append_left hi] at hp
        exact H.nm i p hp
      · rw [List.getElem?_append_right (by (first | lia | omega))] at hp
        have hi0 : i = hs.length := by
          have := (List.getElem?_eq_some_iff.mp hp).1
          simp at this; (first | lia | omega)
        subst hi0
        simp at hp
        rw [← hp]
    · intro p hp
      rcases List.mem_append.mp hp with hp | hp
      · exact H.ds p hp
      · rw [List.mem_singleton.mp hp]
    · intro p hp
      rcases List.mem_append.mp hp with hp | hp
      · exact H.hr p hp
      · rw [List.mem_singleton.mp hp]; exact phr
    · intro p hp
      rcases List.mem_append.mp hp with hp | hp
      · obtain ⟨a, b1, b2, b3⟩ := H.at_ p hp
        exact ⟨a, b1, b2, Store.miss b2 (Store.at_fresh hdl (G _ _ b3))⟩
      · rw [List.mem_singleton.mp hp]
        exact ⟨dl, rfl, hdx, Store.miss hdx Store.hit⟩
  · rintro ρ σ1 ⟨hs, e, hlen, f1, H, g1, r1, r2, r3⟩
    have hlen2 : hs.length = c := by
      have := congrArg List.length e
      simp at this; (first | lia | omega)
    repeat k_extra "m"
    exact h x σ1 hs g1 hx f1 hlen2 H

theorem due_of {cast : List Hn} {gone : List Str} {w : Str} {ps : List (Int × Int)} (hp : ps.Perm (((List.range cast.length).filter (okAt cast gone w)).map fun k => (rkA cast k, (k : Int)))) (ho : ps.Pairwise fun p q => lexlt q p = false) :
    ∃ ks : List Nat, ps = ks.map (fun k => (rkA cast k, (k : Int))) ∧ Due cast gone w ks := by
  have e1 : ps = (ps.map fun p => p.2.toNat).map fun k => (rkA cast k, (k : Int)) := by
    rw [List.map_map]
    refine (List.map_id ps).symm.trans (List.map_congr_left fun p hm => ?_)
    obtain ⟨k, _, rfl⟩ := List.mem_map.mp (hp.mem_iff.mp hm)
    simp
  have pk : (ps.map fun p => p.2.toNat).Perm ((List.range cast.length).filter (okAt cast gone w)) := by
    have := hp.map fun p => p.2.toNat
    rw [List.map_map] at this
    refine this.trans ?_
    have e : ((fun p : Int × Int => p.2.toNat) ∘ fun k : Nat => (rkA cast k, (k : Int))) = id := by
      funext k; simp
    rw [e, List.map_id]
  refine ⟨_, e1, pk, ?_⟩
  have nd : (ps.map fun p => p.2.toNat).Nodup := pk.nodup_iff.mpr (List.nodup_range.filter _)
  rw [e1, List.pairwise_map] at ho
  exact (ho.and nd).imp fun {i j} h => by
    have := lexlt_false.mp h.1
    have := h.2
    dsimp only at *
    (first | lia | omega)
theorem okAt_tv (hs : List (Hn × V)) (gone : List Str) (w : Str) (d : Nat) (hd : d < hs.length) : okAt (hs.map (·.1)) gone w d = (hearsW w hs[d].1 && !gone.contains hs[d].1.name) := by
  unfold okAt
  simp [hd]
theorem range_filter_snoc (p : Nat → Bool) (d : Nat) : (List.range (d + 1)).filter p = if p d then (List.range d).filter p ++ [d] else (List.range d).filter p := by
  rw [List.range_succ, List.filter_append]
  cases e : p d <;> simp [e]
theorem c_rows (hK : C.K = KL C.w.params) {hl gn : Addr} {hs : List (Hn × V)} {gone : List Str} {n : Int} {w : Str} {R : List (Addr × O)} {Q : V → Store → Prop} (hr : A.depth < recursionLimit) (hh : A.handled = none) (hu : A.units < 6700) (K : COk (hs.map (·.1))) (hz : hs.length ≤ 40)
    (hg : gone.length ≤ 8000) (hgok : ∀ x ∈ gone, PyData.strOk x = true) (hw : PyData.strOk w = true) (M : Led σ ((gn, .list (gone.map V.str)) :: (hl, .list (hs.map fun p => p.1.tv p.2)) :: R))
    (h : ∀ x σ', Led σ' ((x, .list ((Row.beg n 0 :: ((heard (hs.map (·.1)) (leftF (hs.map (·.1)) gone) w).map (Row.call n) ++ [.fin n])).map Row.v)) :: (gn, .list ((gone ++ (heard (hs.map (·.1)) (leftF (hs.map (·.1)) gone) w).filter (onceF (hs.map (·.1)))).map V.str)) :: (hl, .list (hs.map fun p => p.1.tv p.2)) :: R) → Q (.ref x) σ') :
    CallWP C A (.ref 361) [.int n, .str w, .ref hl, .ref gn] σ Q X := by
  k_extra "mdef4"
  intro fL A' a1 a2 a3
  have hh' : A'.handled = none := a1.trans hh
  have hu' : A'.units < 8000 := by (first | lia | omega)
  repeat k_extra "m"
  intro x hx
  have M1 := M.new (.list [.tup [.str (Str.ofString "begin"), .int n, .int 0]]) hx
  generalize hσ1 : Store.upd σ x _ = σ1 at M1 ⊢
  repeat k_extra "m"
  intro y hy
  have M2 := M1.new (.list []) hy
  generalize hσ2 : Store.upd σ1 y _ = σ2 at M2 ⊢
  have g3 := M2.get 3 rfl
  repeat k_extra "m"
  refine ⟨_, _, ItV.rng hh' (by (first | lia | omega)) (by (first | lia | omega)) (by simp <;> (first | lia | omega)) (by simp <;> (first | lia | omega)), ?_⟩
  have er : irange 0 (((hs.map fun p => p.1.tv p.2).length : Nat) : Int) = (List.range' 0 hs.length).map fun (i : Nat) => V.int (i : Int) := by
    unfold irange
    rw [List.range_eq_range']
    simp
  rw [er]
  refine ForL.inv (fun (i : Nat) => V.int (i : Int)) (fun rest ρ σ3 => ∃ d, rest = List.range' d (hs.length - d) ∧ d ≤ hs.length ∧ Led σ3 ((y, .list ((((List.range d).filter (okAt (hs.map (·.1)) gone w)).map fun k => (rkA (hs.map (·.1)) k, (k : Int))).map pv)) :: (x, .list [.tup [.str (Str.ofString "begin"), .int n, .int 0]]) :: (gn, .list (gone.map V.str)) :: (hl, .list (hs.map fun p => p.1.tv p.2)) :: R)
      ∧ ρ.get "_law_number" = some (.int n) ∧ ρ.get "_law_word" = some (.str w) ∧ ρ.get "_law_handlers" = some (.ref hl) ∧ ρ.get "_law_gone" = some (.ref gn) ∧ ρ.get "_law_rows" = some (.ref x) ∧ ρ.get "_law_some" = some (.ref y)) ?_ ?_ _ _ _ ⟨0, by simp, by simp, by simpa using M2, by k_extra "mget", by k_extra "mget", by k_extra "mget", by k_extra "mget", by k_extra "mget", by k_extra "mget"⟩
  · rintro i is ρ σ3 ⟨d, e, hd, M3, r1, r2, r3, r4, r5, r6⟩
    have hlt : d < hs.length := by
      cases z : hs.length - d with
      | zero => rw [z] at e; cases e
      | succ m => (first | lia | omega)
    rw [show hs.length - d = (hs.length - (d + 1)) + 1 by (first | lia | omega), List.range'_succ] at e
    obtain ⟨rfl, rfl⟩ := List.cons.inj e
    have g0 := M3.get 0 rfl
    have g2 := M3.get 2 rfl
    have g3 := M3.get 3 rfl
    have hmem : hs[i].1 ∈ hs.map (·.1) := List.mem_map_of_mem (List.getElem_mem hlt)
    have eok := okAt_tv hs gone w i hlt
    have hlen : ((List.range i).filter (okAt (hs.map (·.1)) gone w)).length ≤ 40 := by
      have := List.length_filter_le (okAt (hs.map (·.1)) gone w) (List.range i)
      simp at this; (first | lia | omega)
    have it : ∀ {A' : Around} {Q : V → Store → Prop} {X : XP}, Q (hs[i].1.tv hs[i].2) σ3 → ItemWP C A' (.ref hl) (.int (i : Int)) σ3 Q X := fun hQ => ItemWP.list (.inl g3) (by (first | lia | omega)) (by (first | lia | omega)) (by simp [hlt]) hQ
    have erk : rkA (hs.map (·.1)) i = hs[i].1.rank := by simp [rkA, hlt]
    repeat k_extra "m"
    refine it ?_
    simp only [Hn.tv]
    repeat k_extra "m"
    refine CmpWP.inT2 (by (first | lia | omega)) (K.hears _ hmem) (strOk_ofString _) hw ?_
    have eh : ((Str.ofString "" == hs[i].1.hears) || (w == hs[i].1.hears)) = hearsW w hs[i].1 := by
      unfold hearsW
      rw [beq_swap (Str.ofString "") hs[i].1.hears, beq_swap w hs[i].1.hears]
    rw [eh]
    cases q1 : hearsW w hs[i].1 with
    | false =>
      rw [q1, Bool.false_and] at eok
      repeat k_extra "m"
      refine ⟨trivial, i + 1, by rfl, by (first | lia | omega), ?_, by k_extra "mget", by k_extra "mget", by k_extra "mget", by k_extra "mget", by k_extra "mget", by k_extra "mget"⟩
      rw [range_filter_snoc, eok]
      exact M3
    | true =>
      rw [q1, Bool.true_and] at eok
      repeat k_extra "m"
      refine it ?_
      simp only [Hn.tv]
      repeat k_extra "m"
      refine CmpWP.notInStrs (by (first | lia | omega)) g2 (K.name _ hmem) hgok ?_
      rw [← eok]
      cases q2 : okAt (hs.map (·.1)) gone w i with
      | false =>
        repeat k_extra "m"
        refine ⟨trivial, i + 1, by rfl, by (first | lia | omega), ?_, by k_extra "mget", by k_extra "mget", by k_extra "mget", by k_extra "mget", by k_extra "mget", by k_extra "mget"⟩
        rw [range_filter_snoc, q2]
        exact M3
      | true =>
        repeat k_extra "m"
        refine it ?_
        simp only [Hn.tv]
        repeat k_extra "m"
        have M4 := M3.set 0 (.list ((((List.range (i + 1)).filter (okAt (hs.map (·.1)) gone w)).map fun k => (rkA (hs.map (·.1)) k, (k : Int))).map pv)) rfl
        have e4 : (((List.range (i + 1)).filter (okAt (hs.map (·.1)) gone w)).map fun k => (rkA (hs.map (·.1)) k, (k : Int))).map pv = (((List.range i).filter (okAt (hs.map (·.1)) gone w)).map fun k => (rkA (hs.map (·.1)) k, (k : Int))).map pv ++ [.tup [.int hs[i].1.rank, .int (i : Int)]] := by
          rw [range_filter_snoc, q2]
          simp [pv, erk]
        rw [← e4]
        exact ⟨trivial, i + 1, by rfl, by (first | lia | omega), M4, by k_extra "mget", by k_extra "mget", by k_extra "mget", by k_extra "mget", by k_extra "mget", by k_extra "mget"⟩
  rintro ρ σ3 ⟨d, e, hd, M3, r1, r2, r3, r4, r5, r6⟩
  have hdl : d = hs.length := by
    have := congrArg List.length e
    simp at this; (first | lia | omega)
  subst hdl
  have hcl : (hs.map (·.1)).length = hs.length := by simp
  rw [← hcl] at M3
  have g0 := M3.get 0 rfl
  have hlen : ((List.range (hs.map (·.1)).length).filter (okAt (hs.map (·.1)) gone w)).length ≤ 40 := by
    have := List.length_filter_le (okAt (hs.map (·.1)) gone w) (List.range (hs.map (·.1)).length)
    simp only [List.length_range, hcl] at this ⊢; (first | lia | omega)
  repeat k_extra "m"
  refine CallWP.sortedPairs (.inl g0) (by rw [List.length_map]; (first | lia | omega)) fun s ps hs' hp ho => ?_
  obtain ⟨ks, rfl, D⟩ := due_of hp ho
  have hkl : ks.length ≤ 40 := by rw [D.perm.length_eq]; exact hlen
  have hH := D.heard K
  have M4 := M3.new (.list ((ks.map fun k => (rkA (hs.map (·.1)) k, (k : Int))).map pv)) hs'
  generalize hσ4 : Store.upd σ3 s _ = σ4 at M4 ⊢
  have mk : ∀ k ∈ ks, k < hs.length := fun k hk => by
    have := List.mem_range.mp (List.mem_filter.mp (D.perm.mem_iff.mp hk)).1
    rwa [hcl] at this
  refine ⟨_, _, ItV.list hh' (.inl (M4.get 0 rfl)), ?_⟩
  rw [List.map_map]
  refine ForL.inv (pv ∘ fun k : Nat => (rkA (hs.map (·.1)) k, (k : Int))) (fun rest ρ σ5 => ∃ done, done ++ rest = ks ∧ Led σ5 ((s, .list ((ks.map fun k => (rkA (hs.map (·.1)) k, (k : Int))).map pv)) :: (x, .list ((Row.beg n 0 :: (done.map (nmA (hs.map (·.1)))).map (Row.call n)).map Row.v)) :: (gn, .list ((gone ++ (done.map (nmA (hs.map (·.1)))).filter (onceF (hs.map (·.1)))).map V.str)) :: (hl, .list (hs.map fun p => p.1.tv p.2)) :: R)
      ∧ ρ.get "_law_number" = some (.int n) ∧ ρ.get "_law_handlers" = some (.ref hl) ∧ ρ.get "_law_gone" = some (.ref gn) ∧ ρ.get "_law_rows" = some (.ref x)) ?_ ?_ _ _ _ ⟨[], rfl, ?_, by k_extra "mget", by k_extra "mget", by k_extra "mget", by k_extra "mget"⟩
  · rintro k rest ρ σ5 ⟨done, e, M5, r1, r2, r3, r4⟩
    have hk : k < hs.length := mk k (by rw [← e]; simp)
    have hdl : done.length ≤ 40 := by
      have := congrArg List.length e
      simp at this; (first | lia | omega)
    have hfl : ((done.map (nmA (hs.map (·.1)))).filter (onceF (hs.map (·.1)))).length ≤ 40 := by
      have := List.length_filter_le (onceF (hs.map (·.1))) (done.map (nmA (hs.map (·.1))))
      simp at this ⊢; (first | lia | omega)
    have g1 := M5.get 1 rfl
    have g2 := M5.get 2 rfl
    have g3 := M5.get 3 rfl
    have hmem : hs[k].1 ∈ hs.map (·.1) := List.mem_map_of_mem (List.getElem_mem hk)
    have enm : nmA (hs.map (·.1)) k = hs[k].1.name := by simp [nmA, hk]
    have eon := onceF_of K hmem
    have it : ∀ {σ' : Store} {A' : Around} {Q : V → Store → Prop} {X : XP}, σ' hl = some (.list (hs.map fun p => p.1.tv p.2)) → Q (hs[k].1.tv hs[k].2) σ' → ItemWP C A' (.ref hl) (.int (k : Int)) σ' Q X := fun g hQ => ItemWP.list (.inl g) (by (first | lia | omega)) (by (first | lia | omega)) (by simp [hk]) hQ
    simp only [Function.comp_apply, pv]
    repeat k_extra "m"
    refine it g3 ?_
    simp only [Hn.tv]
    repeat k_extra "m"
    have M6 := M5.set 1 (.list ((Row.beg n 0 :: ((done ++ [k]).map (nmA (hs.map (·.1)))).map (Row.call n)).map Row.v)) rfl
    have e6 : (Row.beg n 0 :: ((done ++ [k]).map (nmA (hs.map (·.1)))).map (Row.call n)).map Row.v = (Row.beg n 0 :: (done.map (nmA (hs.map (·.1)))).map (Row.call n)).map Row.v ++ [.tup [.str (Str.ofString "call"), .int n, .str hs[k].1.name]] := by
      simp [Row.v, enm]
    rw [← e6]
    generalize hσ6 : Store.upd σ5 x _ = σ6 at M6 ⊢
    have g2 := M6.get 2 rfl
    have g3 := M6.get 3 rfl
    repeat k_extra "m"
    refine it g3 ?_
    simp only [Hn.tv]
    repeat k_extra "m"
    cases q : hs[k].1.once with
    | false =>
      repeat k_extra "m"
      have g0 := M6.get 0 rfl
      rw [List.map_map] at g0
      refine ⟨.inl g0, done ++ [k], by simpa using e, ?_, by k_extra "mget", by k_extra "mget", by k_extra "mget", by k_extra "mget"⟩
      have e7 : ((done ++ [k]).map (nmA (hs.map (·.1)))).filter (onceF (hs.map (·.1))) = (done.map (nmA (hs.map (·.1)))).filter (onceF (hs.map (·.1))) := by
        rw [List.map_append, List.filter_append, List.map_singleton, enm]
        simp [eon, q]
      rw [e7]
      exact M6
    | true =>
      repeat k_extra "m"
      refine it g3 ?_
      simp only [Hn.tv]
      repeat k_extra "m"
      have M7 := M6.set 2 (.list ((gone ++ ((done ++ [k]).map (nmA (hs.map (·.1)))).filter (onceF (hs.map (·.1)))).map V.str)) rfl
      have e7 : (gone ++ ((done ++ [k]).map (nmA (hs.map (·.1)))).filter (onceF (hs.map (·.1)))).map V.str = (gone ++ (done.map (nmA (hs.map (·.1)))).filter (onceF (hs.map (·.1)))).map V.str ++ [.str hs[k].1.name] := by
        have e8 : ((done ++ [k]).map (nmA (hs.map (·.1)))).filter (onceF (hs.map (·.1))) = (done.map (nmA (hs.map (·.1)))).filter (onceF (hs.map (·.1))) ++ [hs[k].1.name] := by
          rw [List.map_append, List.filter_append, List.map_singleton, enm]
          simp [eon, q]
        rw [e8]
        simp
      rw [← e7]
      have g0 := M7.get 0 rfl
      rw [List.map_map] at g0
      exact ⟨.inl g0, done ++ [k], by simpa using e, M7, by k_extra "mget", by k_extra "mget", by k_extra "mget", by k_extra "mget"⟩
  · rintro ρ σ5 ⟨done, e, M5, r1, r2, r3, r4⟩
    rw [List.append_nil] at e
    subst e
    have g1 := M5.get 1 rfl
    repeat k_extra "m"
    refine h x _ ?_
    rw [← hH]
    have M6 := (M5.set 1 (.list ((Row.beg n 0 :: ((done.map (nmA (hs.map (·.1)))).map (Row.call n) ++ [.fin n])).map Row.v)) rfl).sub (List.sublist_cons_self _ _)
    have e6 : (Row.beg n 0 :: ((done.map (nmA (hs.map (·.1)))).map (Row.call n) ++ [.fin n])).map Row.v = (Row.beg n 0 :: (done.map (nmA (hs.map (·.1)))).map (Row.call n)).map Row.v ++ [.tup [.str (Str.ofString "end"), .int n]] := by
      simp [Row.v]
    rw [← e6]
    exact M6
  · have M5 := M4.sub (l' := (s, .list ((ks.map fun k => (rkA (hs.map (·.1)) k, (k : Int))).map pv)) :: (x, .list [.tup [.str (Str.ofString "begin"), .int n, .int 0]]) :: (gn, .list (gone.map V.str)) :: (hl, .list (hs.map fun p => p.1.tv p.2)) :: R) ((List.sublist_cons_self _ _).cons_cons _)
    simpa [Row.v] using M5

structure OAd where
  d : Addr
  r : Addr
  l : Addr
  g : Addr
  n : Addr
def lineV (p : Int × Str) : V := .tup [.int p.1, .str p.2]
def ownL (b : OAd) (o : Book) : List (Addr × O) :=
  [(b.d, .sd [("rows", .ref b.r), ("line", .ref b.l), ("log", .ref b.g), ("gone", .ref b.n)]), (b.r, .list (o.rows.map Row.v)), (b.l, .list (o.line.map lineV)), (b.g, .list (o.log.map Row.v)), (b.n, .list (o.gone.map V.str))]
/-- its names can be laid -/
def Row.nok : Row → Prop
  | .call _ h | .join _ h | .leave _ h => PyData.strOk h = true
  | _ => True
/-- the book stands well -/
structure OOk (cast : List Hn) (o : Book) : Prop where
  nd : o.gone.Nodup
  sub : ∀ x ∈ o.gone, x ∈ cast.map (·.name)
  wok : ∀ p ∈ o.line, PyData.strOk p.2 = true
  rl : o.rows.length ≤ 61
  ro : ∀ r ∈ o.rows, r.nok
  lo : ∀ r ∈ o.log, r.nok
theorem OOk.gl {cast : List Hn} {o : Book} (K : COk cast) (P : OOk cast o) : o.gone.length ≤ 60 := by
  have h1 := len_of_sub P.nd P.sub
  have h2 := K.len
  simp at h1; (first | lia | omega)
theorem OOk.step {cast : List Hn} {o o' : Book} (K : COk cast) (P : OOk cast o) (h : o.step cast = some o') : OOk cast o' ∧ o'.log.length = o.log.length + 1 ∧ o'.line.length ≤ o.line.length := by
  unfold Book.step at h
  cases hr : o.rows with
  | cons r rs =>
    rw [hr] at h
    simp only [Option.some.injEq] at h
    subst h
    have := P.rl
    have ro := P.ro
    rw [hr] at this ro
    refine ⟨⟨P.nd, P.sub, P.wok, by simp at this ⊢; (first | lia | omega), fun q hq => ro q (.tail _ hq), fun q hq => ?_⟩, by simp, Nat.le_refl _⟩
    rcases List.mem_append.mp hq with hq | hq
    · exact P.lo q hq
    · rw [List.mem_singleton.mp hq]; exact ro r (.head _)
  | nil =>
    rw [hr] at h
    cases hl : o.line with
    | nil => rw [hl] at h; cases h
    | cons p l =>
      rw [hl] at h
      simp only [Option.some.injEq] at h
      subst h
      have hs := heard_sub K o.gone p.2
      have hlen := len_of_sub hs.1 fun c hc => (hs.2 c hc).1
      have := K.len
      refine ⟨⟨?_, ?_, fun q hq => P.wok q (by rw [hl]; exact .tail _ hq), by simp at hlen ⊢; (first | lia | omega), ?_, ?_⟩, by simp, by simp⟩
      · rw [List.nodup_append]
        exact ⟨P.nd, hs.1.filter _, fun x hx y hy e => (hs.2 y (List.mem_filter.mp hy).1).2 (e ▸ hx)⟩
      · intro x hx
        rcases List.mem_append.mp hx with hx | hx
        · exact P.sub x hx
        · exact (hs.2 x (List.mem_filter.mp hx).1).1
      · intro q hq
        rcases List.mem_append.mp hq with hq | hq
        · obtain ⟨n, hn, rfl⟩ := List.mem_map.mp hq
          obtain ⟨x, hx, e⟩ := List.mem_map.mp (hs.2 n hn).1
          show PyData.strOk n = true
          rw [← e]; exact K.name x hx
        · rw [List.mem_singleton.mp hq]; trivial
      · intro q hq
        rcases List.mem_append.mp hq with hq | hq
        · exact P.lo q hq
        · rw [List.mem_singleton.mp hq]; trivial
theorem Book.runs_some {cast : List Hn} {k : Nat} {o o' : Book} (h : o.step cast = some o') : Book.runs cast (k + 1) o = ((Book.runs cast k o').1 + 1, (Book.runs cast k o').2) := by
  rw [Book.runs]; simp only [h]
theorem Book.runs_none {cast : List Hn} {k : Nat} {o : Book} (h : o.step cast = none) : Book.runs cast k o = (0, o) := by
  cases k with
  | zero => rfl
  | succ k => rw [Book.runs]; simp only [h]
theorem Cpl.ok {cast : List Hn} {o : Book} {s : LS} (K : COk cast) (P : Cpl cast o s) (h1 : s.events.length ≤ 9000) (h2 : s.log.length ≤ 9000) (h3 : o.line.length ≤ 9000) : s.Ok cast ∧ s.Nums := by
  have hpo : ∀ n ∈ s.posts, n ∈ cast.map (·.name) := fun n hn => by
    rw [P.posts] at hn
    exact (List.filter_sublist.map _).subset hn
  have hnm : ∀ n ∈ cast.map (·.name), PyData.strOk n = true := fun n hn => by
    obtain ⟨x, hx, rfl⟩ := List.mem_map.mp hn
    exact K.name x hx
  have hpl : s.posts.length ≤ 60 := by
    have h1 := len_of_sub (l := s.posts) (by rw [P.posts]; exact K.nd.sublist (List.filter_sublist.map _)) hpo
    have := K.len
    simp at h1; (first | lia | omega)
  have hfr : s.frames.length ≤ 1 ∧ ∀ r ∈ s.frames, r.deeds = [] ∧ r.calls.length ≤ 60 ∧ ∀ n ∈ r.calls, n ∈ cast.map (·.name) := by
    rcases P.fr with ⟨e, _⟩ | ⟨n, cs, e, _, nd, hs⟩
    · rw [e]; simp
    · rw [e]
      have h1 := len_of_sub nd hs
      have := K.len
      refine ⟨by simp, fun r hr => ?_⟩
      rw [List.mem_singleton.mp hr]
      exact ⟨rfl, by simp at h1 ⊢; (first | lia | omega), hs⟩
  refine ⟨⟨⟨hpl, h1, h2, by rw [P.near]; simp, by rw [P.far]; simpa using h3, by (first | lia | omega)⟩, ⟨fun n hn => hnm n (hpo n hn), fun r hr => ⟨by have := (hfr.2 r hr).2.1; (first | lia | omega), fun n hn => hnm n ((hfr.2 r hr).2.2 n hn)⟩⟩, hpo, fun r hr => (hfr.2 r hr).2.2, fun r hr => ?_⟩, ⟨?_, ?_, ?_, P.evw⟩⟩
  · rw [(hfr.2 r hr).1]; simp
  · rw [P.fresh]; intro n h; cases h
  · rw [P.near]; simp
  · rw [P.far]
    intro p hp
    obtain ⟨q, hq, rfl⟩ := List.mem_map.mp hp
    have := P.num q hq
    exact ⟨this.1, this.2.1⟩
theorem LAt.front {a : LA} {fs : List FA} {cast : List Hn} {s : LS} {rest : List (Addr × O)} (L : LAt σ a fs cast s rest) : Led σ (rest ++ (tabE :: fp a fs cast s)) :=
  L.led.perm (List.perm_append_comm (l₁ := rest) (l₂ := tabE :: fp a fs cast s))
theorem LAt.back {a : LA} {fs : List FA} {cast : List Hn} {s : LS} {rest : List (Addr × O)} (l : fs.length = s.frames.length) (M : Led σ (rest ++ (tabE :: fp a fs cast s))) : LAt σ a fs cast s rest :=
  ⟨M.perm (List.perm_append_comm (l₁ := tabE :: fp a fs cast s) (l₂ := rest)), l⟩

theorem COk.name' {cast : List Hn} (K : COk cast) {n : Str} (h : n ∈ cast.map (·.name)) : PyData.strOk n = true := by
  obtain ⟨x, hx, rfl⟩ := List.mem_map.mp h
  exact K.name x hx
theorem perm6 {α : Type} (a b c d e f : α) (R : List α) : (d :: a :: e :: f :: b :: c :: R).Perm (a :: b :: c :: d :: e :: f :: R) :=
  (List.Perm.swap a d _).trans ((List.perm_append_comm_assoc [d, e, f] [b, c] R).cons a)
/-- the law's own steps -/
theorem c_own (hK : C.K = KL C.w.params) (E : LC C) {a : LA} {fs : List FA} {s : LS} {b : OAd} {o : Book} {hl : Addr} {hs : List (Hn × V)} {m : Nat} {R : List (Addr × O)} {Q : V → Store → Prop} (hr : A.depth + 6 < recursionLimit) (hh : A.handled = none) (hu : A.units < 6500) (K : COk (hs.map (·.1))) (hds : ∀ h ∈ hs.map (·.1), h.ds = []) (hz : hs.length ≤ 40) (hm : m ≤ 8)
    (P : Cpl (hs.map (·.1)) o s) (W : OOk (hs.map (·.1)) o) (z1 : s.events.length ≤ 100) (z2 : s.log.length ≤ 2000) (z3 : o.line.length ≤ 100) (L : LAt σ a fs (hs.map (·.1)) s (ownL b o ++ (hl, .list (hs.map fun p => p.1.tv p.2)) :: R))
    (h : ∀ b' o' fs' s' σ', Cpl (hs.map (·.1)) o' s' → OOk (hs.map (·.1)) o' → s'.events = s.events → s'.log.length ≤ s.log.length + m → o'.line.length ≤ o.line.length → b'.d = b.d → LAt σ' a fs' (hs.map (·.1)) s' (ownL b' o' ++ (hl, .list (hs.map fun p => p.1.tv p.2)) :: R) → Q (.bool true) σ') :
    CallWP C A (.ref 368) [.ref a.lo, .ref b.d, .int m, .ref hl] σ Q X := by
  have hr0 : A.depth < recursionLimit := by (first | lia | omega)
  k_extra "mdef4"
  intro fL A' a1 a2 a3
  have hh' : A'.handled = none := a1.trans hh
  have hr2 : A'.depth < recursionLimit := by (first | lia | omega)
  have M0 := L.front
  iterate 5 k_extra "m"
  refine Exs.cut (fun ρ1 σ1 => ∃ k o1 b1, k ≤ m ∧ Book.runs (hs.map (·.1)) m o = (k, o1) ∧ OOk (hs.map (·.1)) o1 ∧ o1.line.length ≤ o.line.length ∧ b1.d = b.d ∧ ρ1.get "_law_loom" = some (.ref a.lo) ∧ ρ1.get "_law_steps" = some (.int m) ∧ ρ1.get "_law_done" = some (.int k) ∧ Led σ1 (ownL b1 o1 ++ ((hl, .list (hs.map fun p => p.1.tv p.2)) :: R ++ (tabE :: fp a fs (hs.map (·.1)) s)))) ?_ ?_
  · refine Ex.while (fun n ρ σ1 => ∃ k o1 b1, n = m - k ∧ k ≤ m ∧ Book.runs (hs.map (·.1)) m o = (k + (Book.runs (hs.map (·.1)) (m - k) o1).1, (Book.runs (hs.map (·.1)) (m - k) o1).2) ∧ OOk (hs.map (·.1)) o1 ∧ o1.line.length ≤ o.line.length ∧ o1.log.length ≤ o.log.length + k ∧ b1.d = b.d ∧ ρ.get "_law_loom" = some (.ref a.lo) ∧ ρ.get "_law_own" = some (.ref b.d) ∧ ρ.get "_law_steps" = some (.int m) ∧ ρ.get "_law_handlers" = some (.ref hl) ∧ ρ.get "_law_done" = some (.int k) ∧ Led σ1 (ownL b1 o1 ++ ((hl, .list (hs.map fun p => p.1.tv p.2)) :: R ++ (tabE :: fp a fs (hs.map (·.1)) s)))) ?_ m ⟨0, o, b, by simp, by (first | lia | omega), by simp, W, Nat.le_refl _, by (first | lia | omega), rfl, by k_extra "mget", by k_extra "mget", by k_extra "mget", by k_extra "mget", by rw [show ((0 : Nat) : Int) = 0 from rfl]; k_extra "mget", by simpa using M0⟩
    rintro n ρ σ1 ⟨k, o1, b1, rfl, hk, hR, W1, hl1, hlg, hb, r1, r2, r3, r4, r5, M1⟩
    rw [← hb] at r2
    have lg0 : o.log.length ≤ 2000 := by rw [← P.log]; exact z2
    have g0 := M1.get 0 rfl
    have g1 := M1.get 1 rfl
    have g2 := M1.get 2 rfl
    have g3 := M1.get 3 rfl
    have g4 := M1.get 4 rfl
    have w1 := W1.rl
    have w2 := W1.gl K
    refine Tst.mono (Q := fun bb σ2 => σ2 = σ1 ∧ bb = (decide (k < m) && (!o1.rows.isEmpty || !o1.line.isEmpty))) ?_ ?_
    · repeat k_extra "m"
      by_cases hlt : k < m
      · refine Br.t (by simpa using hlt) ?_
        repeat k_extra "m"
        cases hrw : o1.rows with
        | cons r rs =>
          rw [hrw, List.map_cons] at g1
          repeat k_extra "m"
          simp [hlt]
        | nil =>
          rw [hrw, List.map_nil] at g1
          repeat k_extra "m"
          cases hln : o1.line with
          | nil =>
            repeat k_extra "m"
            simp [hlt]
          | cons p l =>
            repeat k_extra "m"
            simp [hlt]
      · refine Br.f (by simpa using hlt) ?_
        repeat k_extra "m"
        simp [hlt]
    rintro bb σ2 ⟨rfl, rfl⟩
    by_cases hc : (decide (k < m) && (!o1.rows.isEmpty || !o1.line.isEmpty)) = true
    · rw [if_pos hc]
      simp only [Bool.and_eq_true, decide_eq_true_eq] at hc
      obtain ⟨hlt, hne⟩ := hc
      obtain ⟨j, hj⟩ : ∃ j, m - k = j + 1 := ⟨m - k - 1, by (first | lia | omega)⟩
      have e1 : m - (k + 1) = j := by (first | lia | omega)
      refine Exs.cut (fun ρ' σ' => ∃ b2 r rs l2 n2, b2.d = b.d ∧ o1.step (hs.map (·.1)) = some ⟨rs, l2, o1.log ++ [r], n2⟩ ∧ Led σ' (ownL b2 ⟨r :: rs, l2, o1.log, n2⟩ ++ ((hl, .list (hs.map fun p => p.1.tv p.2)) :: R ++ (tabE :: fp a fs (hs.map (·.1)) s))) ∧ ρ'.get "_law_loom" = some (.ref a.lo) ∧ ρ'.get "_law_own" = some (.ref b2.d) ∧ ρ'.get "_law_steps" = some (.int m) ∧ ρ'.get "_law_handlers" = some (.ref hl) ∧ ρ'.get "_law_done" = some (.int k)) ?_ ?_
      · repeat k_extra "m"
        cases hrw : o1.rows with
        | cons r rs =>
          rw [hrw, List.map_cons] at g1
          repeat k_extra "m"
          refine ⟨rfl, b1, r, rs, o1.line, o1.gone, hb, by unfold Book.step; rw [hrw], ?_, by k_extra "mget", by k_extra "mget", by k_extra "mget", by k_extra "mget", by k_extra "mget"⟩
          rw [← hrw]; exact M1
        | nil =>
          rw [hrw, List.map_nil] at g1
          cases hln : o1.line with
          | nil => rw [hrw, hln] at hne; simp at hne
          | cons p l =>
            rw [hln, List.map_cons] at g2
            repeat k_extra "m"
            have zl : l.length ≤ 100 := by rw [hln] at hl1; simp at hl1; (first | lia | omega)
            refine CallWP.pop_at (j := 0) g2 (by decide) (by rw [seqIndex_of (by (first | lia | omega)) (by simp <;> (first | lia | omega))]; rfl) rfl (by simp [sizeLine_eq]; (first | lia | omega)) ?_
            have M2 := M1.set 2 (.list (l.map lineV)) rfl
            rw [show List.eraseIdx (lineV p :: List.map lineV l) 0 = l.map lineV from rfl]
            generalize hσ : Store.upd σ2 b1.l _ = σ4 at M2 ⊢
            simp only [lineV]
            have g0 := M2.get 0 rfl
            repeat k_extra "m"
            have M3 : Led σ4 ((b1.n, .list (o1.gone.map V.str)) :: (hl, .list (hs.map fun p => p.1.tv p.2)) :: ([(b1.d, .sd [("rows", .ref b1.r), ("line", .ref b1.l), ("log", .ref b1.g), ("gone", .ref b1.n)]), (b1.r, .list (o1.rows.map Row.v)), (b1.l, .list (l.map lineV)), (b1.g, .list (o1.log.map Row.v))] ++ (R ++ (tabE :: fp a fs (hs.map (·.1)) s)))) :=
              M2.perm (List.perm_append_comm_assoc [(b1.n, O.list (o1.gone.map V.str)), (hl, .list (hs.map fun p => p.1.tv p.2))] [_, _, _, _] (R ++ (tabE :: fp a fs (hs.map (·.1)) s)))
            refine c_rows hK hr2 hh' (by (first | lia | omega)) K hz (by (first | lia | omega)) (fun x hx => K.name' (W1.sub x hx)) (W1.wok p (by rw [hln]; exact .head _)) M3 fun x σ5 M5 => ?_
            have g0 := M5.get 3 rfl
            repeat k_extra "m"
            refine SetWP.sd g0 (by simp [sizeLine_eq]) ?_
            have es : sput [("rows", V.ref b1.r), ("line", .ref b1.l), ("log", .ref b1.g), ("gone", .ref b1.n)] (Str.ofString "rows") (.ref x) = ([("rows", .ref x), ("line", .ref b1.l), ("log", .ref b1.g), ("gone", .ref b1.n)] : List (Str × V)) := sput_hit
            rw [es]
            have M6 := M5.set 3 (.sd [("rows", .ref x), ("line", .ref b1.l), ("log", .ref b1.g), ("gone", .ref b1.n)]) rfl
            generalize hσ6 : Store.upd σ5 b1.d _ = σ6 at M6 ⊢
            repeat k_extra "m"
            refine ⟨rfl, { b1 with r := x }, .beg p.1 0, _, l, _, hb, by unfold Book.step; rw [hrw, hln], ?_, by k_extra "mget", by k_extra "mget", by k_extra "mget", by k_extra "mget", by k_extra "mget"⟩
            have M7 := M6.sub (l' := [_, _, _, (b1.d, _)] ++ ([(b1.l, O.list (l.map lineV)), (b1.g, .list (o1.log.map Row.v))] ++ (R ++ (tabE :: fp a fs (hs.map (·.1)) s)))) ((List.Sublist.refl [_, _, _, _]).append (List.sublist_cons_self _ _))
            exact M7.perm (perm6 _ _ _ _ _ _ _)
      · rintro ρ3 σ3 ⟨b2, r, rs, l2, n2, hb2, hst, M3, r1, r2, r3, r4, r5⟩
        obtain ⟨W2, w3, w4⟩ := W1.step K hst
        have g0 := M3.get 0 rfl
        have g1 := M3.get 1 rfl
        have g3 := M3.get 3 rfl
        have w1 := W2.rl
        dsimp only at w1 w3 w4 g1 g3
        repeat k_extra "m"
        refine CallWP.pop_at (j := 0) g1 (by decide) (by rw [seqIndex_of (by (first | lia | omega)) (by simp <;> (first | lia | omega))]; rfl) rfl (by simp [sizeLine_eq]; (first | lia | omega)) ?_
        have M4 := M3.set 1 (.list (rs.map Row.v)) rfl
        rw [show List.eraseIdx ((r :: rs).map Row.v) 0 = rs.map Row.v from rfl]
        generalize hσ : Store.upd σ3 b2.r _ = σ4 at M4 ⊢
        have g0 := M4.get 0 rfl
        have g3 := M4.get 3 rfl
        dsimp only at g3
        repeat k_extra "m"
        have M5 := M4.set 3 (.list ((o1.log ++ [r]).map Row.v)) rfl
        have el : (o1.log ++ [r]).map Row.v = o1.log.map Row.v ++ [Row.v r] := by simp
        rw [el] at M5
        refine ⟨m - (k + 1), by (first | lia | omega), k + 1, ⟨rs, l2, o1.log ++ [r], n2⟩, b2, rfl, by (first | lia | omega), ?_, W2, Nat.le_trans w4 hl1, by simp; (first | lia | omega), hb2, by k_extra "mget", by rw [← hb2]; k_extra "mget", by k_extra "mget", by k_extra "mget", by rw [show ((k + 1 : Nat) : Int) = (k : Int) + 1 by omega]; k_extra "mget", ?_⟩
        · rw [hR, hj, Book.runs_some hst, e1]
          simp only [Prod.mk.injEq, and_true]
          (first | lia | omega)
        · unfold ownL
          rw [el]
          exact M5
    · rw [if_neg hc]
      have hst : k = m ∨ o1.step (hs.map (·.1)) = none := by
        by_cases hlt : k < m
        · right
          have : o1.rows = [] ∧ o1.line = [] := by simpa [hlt] using hc
          unfold Book.step; rw [this.1, this.2]
        · left; (first | lia | omega)
      have e2 : Book.runs (hs.map (·.1)) m o = (k, o1) := by
        rcases hst with e | e
        · rw [hR, e, Nat.sub_self]; rfl
        · rw [hR, Book.runs_none e]; rfl
      exact ⟨rfl, k, o1, b1, hk, e2, W1, hl1, hb, r1, r3, r5, M1⟩
  · rintro ρ1 σ1 ⟨k, o1, b1, hk, hR, W1, hl1, hb, r1, r3, r5, M1⟩
    have L1 : LAt σ1 a fs (hs.map (·.1)) s (ownL b1 o1 ++ (hl, .list (hs.map fun p => p.1.tv p.2)) :: R) := LAt.back L.len (by simpa using M1)
    have g1 := L1.led.get 1 rfl
    have g2 := L1.led.get 2 rfl
    repeat k_extra "m"
    refine c_run E (by (first | lia | omega)) hh' (by (first | lia | omega)) L1 K (fun h hm => by rw [hds h hm]; simp) (fun i s1 => ∃ o2, Cpl (hs.map (·.1)) o2 s1 ∧ OOk (hs.map (·.1)) o2 ∧ s1.events = s.events ∧ s1.log.length = s.log.length + i ∧ o2.line.length ≤ o.line.length) ⟨o, P, W, rfl, rfl, Nat.le_refl _⟩ ?_ ?_ fun i fs' s' σ' hi hP hrun _ L' => ?_
    · rintro i s1 s2 hi ⟨o2, P2, W2, q1, q2, q3⟩ hst
      rcases P2.step K hds with ⟨_, e2⟩ | ⟨o3, s3, e1, e2, P3, q4, q5, _⟩
      · rw [e2] at hst; cases hst
      · rw [hst] at e2
        cases e2
        obtain ⟨W3, _, w4⟩ := W2.step K e1
        exact ⟨o3, P3, W3, q4.trans q1, by (first | lia | omega), by (first | lia | omega)⟩
    · rintro i s1 hi ⟨o2, P2, _, q1, q2, q3⟩
      exact P2.ok K (by rw [q1]; (first | lia | omega)) (by (first | lia | omega)) (by (first | lia | omega))
    · obtain ⟨e1, P'⟩ := Cpl.runs K hds m P
      rw [hrun, hR] at e1 P'
      dsimp only at e1 P'
      subst e1
      obtain ⟨o2, _, _, q1, q2, _⟩ := hP
      repeat k_extra "m"
      show Q (V.bool _) _
      rw [beq_self_eq_true]
      exact h b1 o1 fs' s' σ' P' W1 q1 (by (first | lia | omega)) hl1 hb L'

/-- plain parts of a row or an event -/
def plainV : V → Prop
  | .int _ | .str _ | .none | .tup _ => True
  | _ => False
theorem c_kinds (hK : C.K = KL C.w.params) {l : Addr} {tss : List (Str × List V)} {Q : V → Store → Prop} (hr : A.depth < recursionLimit) (hh : A.handled = none) (hl : σ l = some (.list (tss.map fun p => V.tup (.str p.1 :: p.2)))) (hz : tss.length ≤ 9000) (hp : ∀ p ∈ tss, (∀ v ∈ p.2, plainV v) ∧ p.2.length ≤ 10)
    (h : ∀ σ', Grow σ σ' → Q (.bool true) σ') : CallWP C A (.ref 373) [.ref l] σ Q X := by
  k_extra "mdef1"
  intro fL A' a1 a2 a3
  have hh' : A'.handled = none := a1.trans hh
  repeat k_extra "m"
  refine ⟨_, _, ItV.list hh' (.inl hl), ?_⟩
  refine ForL.inv (fun p : Str × List V => V.tup (.str p.1 :: p.2)) (fun rest ρ σ1 => (∀ p ∈ rest, p ∈ tss) ∧ Grow σ σ1) ?_ ?_ _ _ _ ⟨fun p hp => hp, Grow.rfl'⟩
  · rintro ⟨k, vs⟩ rest ρ σ1 ⟨hm, g1⟩
    obtain ⟨hv, hvl⟩ := hp _ (hm _ (.head _))
    dsimp only at hv hvl
    repeat k_extra "m"
    refine ⟨_, _, ItV.tup hh', fun L' => ?_⟩
    refine CmpL.pure (fun _ => true) (fun _ => .bool false) trivial _ _ ?_ ?_ (by simp [sizeLine_eq]; (first | lia | omega)) ?_
    · intro y hy Q hQ
      repeat k_extra "m"
      exact hQ
    · intro y hy _ Q hQ
      have hy' : plainV y := by
        rcases List.mem_cons.mp hy with rfl | hy
        · trivial
        · exact hv y hy
      cases y with
      | int i => repeat k_extra "m"
                 exact hQ
      | str i => repeat k_extra "m"
                 exact hQ
      | none => repeat k_extra "m"
                exact hQ
      | tup i => repeat k_extra "m"
                 exact hQ
      | _ => exact hy'.elim
    intro c hc
    have e : ([] : List V) ++ List.map (fun _ => V.bool false) (List.filter (fun _ => true) (V.str k :: vs)) = ((V.str k :: vs).map fun _ => false).map V.bool := by
      rw [List.nil_append, List.filter_eq_self.mpr (fun _ _ => rfl), List.map_map]; rfl
    rw [e]
    repeat k_extra "m"
    refine CallWP.any hh' (.inl Store.hit) ?_
    have e2 : (((V.str k :: vs).map fun _ => false).any id) = false := by simp
    rw [e2]
    repeat k_extra "m"
    exact ⟨.inl (Store.at_fresh hc (g1 _ _ hl)), fun p hp => hm p (.tail _ hp), g1.fresh hc⟩
  · rintro ρ σ1 ⟨_, g1⟩
    repeat k_extra "m"
    exact h σ1 g1

/- the ends of the law -/
def rowK : Row → Str × List V
  | .send n => (Str.ofString "send", [.int n])
  | .beg n t => (Str.ofString "begin", [.int n, .int t])
  | .fin n => (Str.ofString "end", [.int n])
  | .call n h => (Str.ofString "call", [.int n, .str h])
  | .cancel n ns => (Str.ofString "cancel", [.int n, .tup (ns.map V.int)])
  | .join n h => (Str.ofString "join", [.int n, .str h])
  | .leave n h => (Str.ofString "leave", [.int n, .str h])
  | .hush n => (Str.ofString "hush", [.int n])
  | .make m n => (Str.ofString "make", [.int m, .int n])
theorem rowK_v (r : Row) : Row.v r = V.tup (.str (rowK r).1 :: (rowK r).2) := by cases r <;> rfl
theorem rowK_plain (r : Row) : (∀ v ∈ (rowK r).2, plainV v) ∧ (rowK r).2.length ≤ 10 := by
  have h1 : ∀ {a : V}, plainV a → ∀ v ∈ [a], plainV v := fun h v hv => by rw [List.mem_singleton.mp hv]; exact h
  have h2 : ∀ {a b : V}, plainV a → plainV b → ∀ v ∈ [a, b], plainV v := fun h k v hv => by
    rcases List.mem_cons.mp hv with rfl | hv
    · exact h
    · exact h1 k v hv
  cases r with
  | send n => exact ⟨h1 trivial, Nat.le_of_ble_eq_true rfl⟩
  | fin n => exact ⟨h1 trivial, Nat.le_of_ble_eq_true rfl⟩
  | hush n => exact ⟨h1 trivial, Nat.le_of_ble_eq_true rfl⟩
  | _ => exact ⟨h2 trivial trivial, Nat.le_of_ble_eq_true rfl⟩
theorem rows_kinds (l : List Row) : l.map Row.v = (l.map rowK).map fun p => V.tup (.str p.1 :: p.2) := by
  rw [List.map_map]; exact List.map_congr_left fun r _ => rowK_v r
def evK (e : Evt) : Str × List V := (e.word, [optV e.maker, .str e.road, .int e.due])
theorem evs_kinds (l : List Evt) : l.map Evt.v = (l.map evK).map fun p => V.tup (.str p.1 :: p.2) := by
  rw [List.map_map]; rfl
theorem evK_plain (e : Evt) : (∀ v ∈ (evK e).2, plainV v) ∧ (evK e).2.length ≤ 10 := by
  refine ⟨?_, by simp [evK]⟩
  cases e with
  | mk w m r d => cases m <;> simp [evK, plainV, optV]
def rowD : Row → PyData
  | .send n => .tuple [.str (Str.ofString "send"), .int n]
  | .beg n t => .tuple [.str (Str.ofString "begin"), .int n, .int t]
  | .fin n => .tuple [.str (Str.ofString "end"), .int n]
  | .call n h => .tuple [.str (Str.ofString "call"), .int n, .str h]
  | .cancel n ns => .tuple [.str (Str.ofString "cancel"), .int n, .tuple (ns.map PyData.int)]
  | .join n h => .tuple [.str (Str.ofString "join"), .int n, .str h]
  | .leave n h => .tuple [.str (Str.ofString "leave"), .int n, .str h]
  | .hush n => .tuple [.str (Str.ofString "hush"), .int n]
  | .make m n => .tuple [.str (Str.ofString "make"), .int m, .int n]
theorem row_dr (r : Row) : DR C σ r.v (rowD r) := by
  cases r with
  | cancel n ns => exact .tup (.cons (.str _) (.cons (.int _) (.cons (.tup (DRs.map fun _ _ => .int _)) .nil)))
  | send n => exact .tup (.cons (.str _) (.cons (.int _) .nil))
  | fin n => exact .tup (.cons (.str _) (.cons (.int _) .nil))
  | hush n => exact .tup (.cons (.str _) (.cons (.int _) .nil))
  | beg n t => exact .tup (.cons (.str _) (.cons (.int _) (.cons (.int _) .nil)))
  | make n t => exact .tup (.cons (.str _) (.cons (.int _) (.cons (.int _) .nil)))
  | call n t => exact .tup (.cons (.str _) (.cons (.int _) (.cons (.str _) .nil)))
  | join n t => exact .tup (.cons (.str _) (.cons (.int _) (.cons (.str _) .nil)))
  | leave n t => exact .tup (.cons (.str _) (.cons (.int _) (.cons (.str _) .nil)))
theorem row_lay {r : Row} (h : r.nok) : (rowD r).canLay0 = true ∧ (rowD r).depth ≤ 4 := by
  have s := strOk_ofString
  cases r with
  | cancel n ns =>
    have a := canLayAll_map (g := PyData.int) (xs := ns) fun _ _ => by simp [PyData.canLay0]
    have b := depthAll_map (k := 1) (g := PyData.int) (xs := ns) (fun _ _ => by simp [PyData.depth])
    refine ⟨by simp [rowD, PyData.canLay0, PyData.canLayAll0, s, a], ?_⟩
    simp only [rowD, PyData.depth, PyData.depthAll]; (first | lia | omega)
  | call n t => exact ⟨by simp [rowD, PyData.canLay0, PyData.canLayAll0, s, show PyData.strOk t = true from h], by simp [rowD, PyData.depth, PyData.depthAll]⟩
  | join n t => exact ⟨by simp [rowD, PyData.canLay0, PyData.canLayAll0, s, show PyData.strOk t = true from h], by simp [rowD, PyData.depth, PyData.depthAll]⟩
  | leave n t => exact ⟨by simp [rowD, PyData.canLay0, PyData.canLayAll0, s, show PyData.strOk t = true from h], by simp [rowD, PyData.depth, PyData.depthAll]⟩
  | _ => exact ⟨by simp [rowD, PyData.canLay0, PyData.canLayAll0, s], by simp [rowD, PyData.depth, PyData.depthAll]⟩
/-- two lists of the same rows -/
theorem eq_rows {l m : Addr} {rs : List Row} {Q : V → Store → Prop} (hu : A.units < 9000) (h1 : σ l = some (.list (rs.map Row.v))) (h2 : σ m = some (.list (rs.map Row.v))) (hn : ∀ r ∈ rs, r.nok) (h : Q (.bool true) σ) : CmpWP C A .Eq (.ref l) (.ref m) σ Q X := by
  refine CmpWP.eqSame (d := .list (rs.map rowD)) (.list (.inl h1) (DRs.map fun r _ => row_dr r)) (.list (.inl h2) (DRs.map fun r _ => row_dr r)) ?_ ?_ h
  · simp only [PyData.canLay0]; exact canLayAll_map fun r hr => (row_lay (hn r hr)).1
  · have := depthAll_map (k := 4) (g := rowD) (xs := rs) fun r hr => (row_lay (hn r hr)).2
    simp only [PyData.depth, cLine]; (first | lia | omega)
def optD : Option Int → PyData
  | none => .none
  | some n => .int n
def evD (e : Evt) : PyData := .tuple [.str e.word, optD e.maker, .str e.road, .int e.due]
theorem ev_dr (e : Evt) : DR C σ e.v (evD e) := by
  cases e with
  | mk w m r d => cases m with
    | none => exact .tup (.cons (.str _) (.cons .none (.cons (.str _) (.cons (.int _) .nil))))
    | some n => exact .tup (.cons (.str _) (.cons (.int _) (.cons (.str _) (.cons (.int _) .nil))))
theorem ev_lay {e : Evt} (h1 : PyData.strOk e.word = true) (h2 : PyData.strOk e.road = true) : (evD e).canLay0 = true ∧ (evD e).depth ≤ 4 := by
  cases e with
  | mk w m r d => cases m <;> exact ⟨by simp [evD, optD, PyData.canLay0, PyData.canLayAll0, show PyData.strOk w = true from h1, show PyData.strOk r = true from h2], by simp [evD, optD, PyData.depth, PyData.depthAll]⟩
theorem eq_evs {l m : Addr} {rs : List Evt} {Q : V → Store → Prop} (hu : A.units < 9000) (h1 : σ l = some (.list (rs.map Evt.v))) (h2 : σ m = some (.list (rs.map Evt.v))) (hn : ∀ e ∈ rs, PyData.strOk e.word = true ∧ PyData.strOk e.road = true) (h : Q (.bool true) σ) : CmpWP C A .Eq (.ref l) (.ref m) σ Q X := by
  refine CmpWP.eqSame (d := .list (rs.map evD)) (.list (.inl h1) (DRs.map fun r _ => ev_dr r)) (.list (.inl h2) (DRs.map fun r _ => ev_dr r)) ?_ ?_ h
  · simp only [PyData.canLay0]; exact canLayAll_map fun r hr => (ev_lay (hn r hr).1 (hn r hr).2).1
  · have := depthAll_map (k := 4) (g := evD) (xs := rs) fun r hr => (ev_lay (hn r hr).1 (hn r hr).2).2
    simp only [PyData.depth, cLine]; (first | lia | omega)
theorem eq_strs {l m : Addr} {rs : List Str} {Q : V → Store → Prop} (hu : A.units < 9000) (h1 : σ l = some (.list (rs.map V.str))) (h2 : σ m = some (.list (rs.map V.str))) (hn : ∀ r ∈ rs, PyData.strOk r = true) (h : Q (.bool true) σ) : CmpWP C A .Eq (.ref l) (.ref m) σ Q X := by
  refine CmpWP.eqSame (d := .list (rs.map PyData.str)) (.list (.inl h1) (DRs.map fun r _ => .str _)) (.list (.inl h2) (DRs.map fun r _ => .str _)) ?_ ?_ h
  · simp only [PyData.canLay0]; exact canLayAll_map fun r hr => by simpa [PyData.canLay0] using hn r hr
  · have := depthAll_map (k := 1) (g := PyData.str) (xs := rs) (fun r hr => by simp [PyData.depth])
    simp only [PyData.depth, cLine]; (first | lia | omega)
def callP : V → Bool
  | .tup (.str k :: _) => k == Str.ofString "call"
  | _ => false
def third : V → V
  | .tup [_, _, x] => x
  | _ => .none
theorem called_eq : ∀ l : List Row, ((l.map Row.v).filter callP).map third = (calledF l).map V.str
  | [] => rfl
  | r :: l => by
    have ih := called_eq l
    have e : calledF (r :: l) = (match r with | .call _ h => [h] | _ => []) ++ calledF l := by
      unfold calledF; rw [List.filterMap_cons]; cases r <;> rfl
    rw [e, List.map_append, List.map_cons, List.filter_cons]
    have hn : ∀ k : String, (Str.ofString k == Str.ofString "call") = true → Str.ofString k = Str.ofString "call" := fun k h => by simpa using h
    cases r with
    | call n h =>
      have : callP (Row.v (.call n h)) = true := by show (Str.ofString "call" == Str.ofString "call") = true; simp
      rw [if_pos this, List.map_cons, ih]; rfl
    | _ =>
      rw [if_neg (by show ¬ ((_ == Str.ofString "call") = true); decide +kernel)]
      simpa using ih
def leftP (called : List Str) : V → Bool
  | .tup (.str n :: _ :: _ :: .bool o :: _) => !(o && called.contains n)
  | _ => false
def firstV : V → V
  | .tup (x :: _) => x
  | _ => .none
theorem left_eq (called : List Str) : ∀ hs : List (Hn × V), ((hs.map fun p => p.1.tv p.2).filter (leftP called)).map firstV = (((hs.map (·.1)).filter fun h => !(h.once && called.contains h.name)).map (·.name)).map V.str
  | [] => rfl
  | p :: hs => by
    have ih := left_eq called hs
    rw [List.map_cons, List.filter_cons, List.map_cons, List.filter_cons]
    have e : leftP called (p.1.tv p.2) = !(p.1.once && called.contains p.1.name) := rfl
    rw [e]
    cases (!(p.1.once && called.contains p.1.name)) with
    | true => simp only [if_true, List.map_cons, ih]; rfl
    | false => simpa using ih
theorem pickWord : ∀ j : Nat, j < 4 → ∃ p : Str, ([V.str (Str.ofString "bell"), V.str (Str.ofString "bull"), V.str (Str.ofString "bellbellbell"), V.str (Str.ofString "bel")] : List V)[j]? = some (.str p) ∧ isW p = true ∧ PyData.strOk p = true ∧ p.length ≤ 1000 := by
  intro j hj
  match j, hj with
  | 0, _ => exact ⟨_, rfl, by decide +kernel, strOk_ofString _, by decide +kernel⟩
  | 1, _ => exact ⟨_, rfl, by decide +kernel, strOk_ofString _, by decide +kernel⟩
  | 2, _ => exact ⟨_, rfl, by decide +kernel, strOk_ofString _, by decide +kernel⟩
  | 3, _ => exact ⟨_, rfl, by decide +kernel, strOk_ofString _, by decide +kernel⟩
theorem slice1 (cs : List Int) : pySlice (cs.map V.int) (some 1) none = (cs.drop 1).map V.int := by
  cases cs with
  | nil => rfl
  | cons c cs =>
    rw [show (1 : Int) = ((1 : Nat) : Int) from rfl, pySlice_from _ _ (by simp)]
    rw [List.map_drop]

theorem perm8 {α : Type} (c s d4 d3 d2 d1 d h : α) (R : List α) : (c :: s :: d4 :: d3 :: d2 :: d1 :: d :: h :: R).Perm (d :: d1 :: d2 :: d3 :: d4 :: h :: s :: c :: R) := by
  refine List.Perm.append_right R (l₁ := [c, s, d4, d3, d2, d1, d, h]) (l₂ := [d, d1, d2, d3, d4, h, s, c]) ?_
  have := List.reverse_perm [c, s, d4, d3, d2, d1, d, h]
  exact this.symm.trans (List.perm_middle (l₁ := [d, d1, d2, d3, d4]) (a := h) (l₂ := [s, c])).symm
theorem HsT.nd {σ : Store} {c : Nat} {x : Addr} {hs : List (Hn × V)} (H : HsT σ c x hs) (hl : hs.length ≤ 40) : (hs.map (·.1.name)).Nodup := by
  unfold List.Nodup
  rw [List.pairwise_iff_getElem]
  intro i j hi hj hij e
  simp only [List.length_map] at hi hj
  simp only [List.getElem_map] at e
  rw [H.nm i _ (List.getElem?_eq_getElem hi), H.nm j _ (List.getElem?_eq_getElem hj)] at e
  have := nameN_inj (by (first | lia | omega)) (by (first | lia | omega)) e
  (first | lia | omega)
theorem HsT.name {σ : Store} {c : Nat} {x : Addr} {hs : List (Hn × V)} (H : HsT σ c x hs) (hl : hs.length ≤ 40) : ∀ p ∈ hs, isW p.1.name = true ∧ PyData.strOk p.1.name = true := by
  intro p hp
  obtain ⟨i, hi⟩ := List.mem_iff_getElem?.mp hp
  have hl' := (List.getElem?_eq_some_iff.mp hi).1
  rw [H.nm i p hi]
  exact ⟨nameN_isW c i (by (first | lia | omega)), nameN_ok c i (by (first | lia | omega))⟩
theorem HsT.told {σ : Store} {c : Nat} {x : Addr} {hs : List (Hn × V)} (H : HsT σ c x hs) (hl : hs.length ≤ 40) : Told σ hs := by
  refine ⟨fun p hp => ?_, fun p hp => ?_, H.nd hl, hl, fun p hp d hd => ?_⟩
  · obtain ⟨l, e1, _, e2⟩ := H.at_ p hp
    exact .inl ⟨l, e1, by rw [e2, H.ds p hp]; rfl⟩
  · exact ⟨(H.name hl p hp).1, (H.hr p hp).1, by rw [H.ds p hp]; simp, fun d hd => by rw [H.ds p hp] at hd; cases hd⟩
  · rw [H.ds p hp] at hd; cases hd
theorem HsT.cok {σ : Store} {c : Nat} {x : Addr} {hs : List (Hn × V)} (H : HsT σ c x hs) (hl : hs.length ≤ 40) : COk (hs.map (·.1)) := by
  refine ⟨?_, by simp; (first | lia | omega), fun h hm => ?_, fun h hm => ?_⟩
  · have := H.nd hl
    rw [List.map_map]; exact this
  · obtain ⟨p, hp, rfl⟩ := List.mem_map.mp hm
    exact (H.hr p hp).2
  · obtain ⟨p, hp, rfl⟩ := List.mem_map.mp hm
    exact (H.name hl p hp).2
theorem HsT.grow {σ σ' : Store} {c : Nat} {x : Addr} {hs : List (Hn × V)} (H : HsT σ c x hs) (g : Grow σ σ') : HsT σ' c x hs :=
  ⟨H.nm, H.ds, H.hr, fun p hp => by obtain ⟨l, a, b, e⟩ := H.at_ p hp; exact ⟨l, a, b, g _ _ e⟩⟩
theorem c_law (hK : C.K = KL C.w.params) (hS : SysOk C) (hB : BMod C) (Cd : CodeHd C.h₀ 142 140) {l : Addr} {cs : List Int} (hl : BaseL C l (cs.map V.int)) (hn : cs.length ≤ 63) :
    CallWP C callerA (.ref 378) [.ref l] (Store.upd (fun _ => none) 140 (.tab ⟨85, 29, 85, 58⟩ lamQ)) (fun v σ' => v = .bool true ∧ ∃ o, σ' 140 = some o ∧ ∃ pos' q', o = .tab pos' q') (fun _ _ => False) := by
  have E : LC C := ⟨hK, hB, Cd⟩
  have hr0 : callerA.depth < recursionLimit := by decide
  have M0 : Led (Store.upd (fun _ => none) 140 (.tab ⟨85, 29, 85, 58⟩ lamQ)) [tabE] := Led.nil.new (.tab ⟨85, 29, 85, 58⟩ lamQ) rfl
  generalize Store.upd (fun _ => none) 140 (.tab ⟨85, 29, 85, 58⟩ lamQ) = σ at *
  k_extra "mdef1"
  intro fL A' a1 a2 a3
  have hh' : A'.handled = none := a1
  have hr' : A'.depth + 10 < recursionLimit := by rw [a2]; decide
  have hr1 : A'.depth < recursionLimit := by (first | lia | omega)
  have hu : A'.units < 5000 := by rw [a3]; decide
  have hcs : cs.length ≤ 1000 := by (first | lia | omega)
  repeat k_extra "m"
  refine c_told (i := 0) hK hr1 hh' (.inr hl) hcs (by (first | lia | omega)) ?_
  generalize cs.getD 0 0 = b
  k_extra "m"
  k_extra "m"
  refine Exs.cut (fun ρ' σ' => σ' = σ ∧ ∃ n : Int, ρ'.get "_law_count" = some (.int n) ∧ ρ'.get "_law_script" = some (.ref l) ∧ ρ'.get "_law_base" = some (.int b) ∧ (1 ≤ n ∧ n ≤ 5)) ?_ ?_
  · have b0 : 0 ≤ b.fmod 5 := Int.fmod_nonneg_of_pos _ (by (first | lia | omega))
    have b1 : b.fmod 5 < 5 := Int.fmod_lt_of_pos _ (by (first | lia | omega))
    repeat k_extra "m"
    exact ⟨rfl, rfl, _, by k_extra "mget", by k_extra "mget", by k_extra "mget", by (first | lia | omega), by (first | lia | omega)⟩
  rintro ρ1 σ1 ⟨rfl, n0, p1, p2, p3, p4, p5⟩
  refine Exs.cut (fun ρ' σ' => σ' = σ1 ∧ ∃ n : Nat, ρ'.get "_law_count" = some (.int (n : Int)) ∧ ρ'.get "_law_script" = some (.ref l) ∧ n ≤ 40) ?_ ?_
  · repeat k_extra "m"
    refine Br.both ?_ ?_
    · repeat k_extra "m"
      exact ⟨rfl, rfl, 40, by show _ = some (V.int 40); k_extra "mget", by k_extra "mget", by (first | lia | omega)⟩
    · repeat k_extra "m"
      refine ⟨rfl, rfl, n0.toNat, ?_, by k_extra "mget", by (first | lia | omega)⟩
      rw [Int.toNat_of_nonneg (by (first | lia | omega))]; exact p1
  clear p1 p2 p3
  rintro ρ1 σ2 ⟨rfl, n, p1, p2, hn40⟩
  repeat k_extra "m"
  refine c_handlers hK (by (first | lia | omega)) hh' (by (first | lia | omega)) hl hn hn40 fun hl' σ3 hs g3 f0 f3 hlen H => ?_
  have M3 := M0.add g3 f0 f3
  have z40 : hs.length ≤ 40 := by (first | lia | omega)
  repeat k_extra "m"
  intro y hy
  have M4 := M3.new (.list (hs.map fun p => p.1.tv p.2)) hy
  have G4 : Grow σ3 (σ3.upd y (.list (hs.map fun p => p.1.tv p.2))) := Grow.rfl'.fresh hy
  generalize Store.upd σ3 y _ = σ4 at M4 G4 ⊢
  have g1 := M4.get 1 rfl
  repeat k_extra "m"
  refine ⟨_, _, ItV.list hh' (.inl g1), fun L' => ?_⟩
  refine CmpL.pure (fun _ => true) (fun y => match y with | .tup (x :: _) => x | _ => .none) (.inl g1) _ _ ?_ ?_ (by simp [sizeLine_eq]; (first | lia | omega)) ?_
  · intro y hy Q hQ
    repeat k_extra "m"
    exact hQ
  · intro y hy _ Q hQ
    obtain ⟨p, hp, rfl⟩ := List.mem_map.mp hy
    simp only [Hn.tv]
    repeat k_extra "m"
    exact hQ
  intro z hz
  have e : ([] : List V) ++ List.map (fun y => match y with | .tup (x :: _) => x | _ => .none) (List.filter (fun _ => true) (hs.map fun p => p.1.tv p.2)) = (hs.map (·.1.name)).map V.str := by
    rw [List.nil_append, List.filter_eq_self.mpr (fun _ _ => rfl), List.map_map, List.map_map]; rfl
  rw [e]
  have M5 := M4.new (.list ((hs.map (·.1.name)).map V.str)) hz
  have G5 : Grow σ3 (σ4.upd z (.list ((hs.map (·.1.name)).map V.str))) := G4.fresh hz
  generalize Store.upd σ4 z _ = σ5 at M5 G5 ⊢
  have K := H.cok z40
  have hds : ∀ h ∈ hs.map (·.1), h.ds = [] := fun h hm => by
    obtain ⟨p, hp, rfl⟩ := List.mem_map.mp hm
    exact H.ds p hp
  repeat k_extra "m"
  refine c_Loom hK hS (by (first | lia | omega)) hh' (by (first | lia | omega)) ((H.grow G5).told z40) (.inl (M5.get 1 rfl)) (M5.get 0 rfl) (by simp; (first | lia | omega)) (H.nd z40) (fun n hn => hn) (fun n hn => by obtain ⟨p, hp, rfl⟩ := List.mem_map.mp hn; exact (H.name z40 p hp).2) (rest := [(hl', .list (hs.map fun p => p.1.tv p.2))]) ?_ fun a σ6 L6 G6 _ => ?_
  · have M6 := M5.sub (l' := [(hl', .list (hs.map fun p => p.1.tv p.2)), tabE]) (((List.Sublist.refl _).cons _).cons _)
    exact M6.perm (List.Perm.swap _ _ _)
  have P6 := Cpl.start (hs.map (·.1))
  have en : (hs.map (·.1)).map (·.name) = hs.map (·.1.name) := by rw [List.map_map]; rfl
  rw [en] at P6
  repeat k_extra "m"
  intro od hod
  repeat k_extra "m"
  intro o1 ho1
  repeat k_extra "m"
  intro o2 ho2
  repeat k_extra "m"
  intro o3 ho3
  repeat k_extra "m"
  intro o4 ho4
  repeat k_extra "m"
  have M7 := ((((L6.front.new (.sd []) hod).new (.list []) ho1).new (.list []) ho2).new (.list []) ho3).new (.list []) ho4
  have M8 := M7.set 4 (.sd [("rows", .ref o1), ("line", .ref o2), ("log", .ref o3), ("gone", .ref o4)]) rfl
  refine ⟨by k_extra "mst", ?_⟩
  have es : List.foldl (fun e (p : Str × V) => sput e p.1 p.2) [] [(Str.ofString "rows", V.ref o1), (Str.ofString "line", .ref o2), (Str.ofString "log", .ref o3), (Str.ofString "gone", .ref o4)] = ([("rows", .ref o1), ("line", .ref o2), ("log", .ref o3), ("gone", .ref o4)] : List (Str × V)) := by
    simp only [List.foldl_cons, List.foldl_nil]
    kernel_rfl
  rw [es]
  generalize Store.upd _ od _ = σ7 at M8 ⊢
  repeat k_extra "m"
  intro se hse
  have M9 := M8.new (.list []) hse
  generalize Store.upd σ7 se _ = σ8 at M9 ⊢
  repeat k_extra "m"
  refine ⟨_, rfl, ?_⟩
  repeat k_extra "m"
  refine SliceWP.list (.inr hl) (by simp [sizeLine_eq]; (first | lia | omega)) fun c1 hc1 => ?_
  rw [slice1]
  have M10 := M9.new (.list ((cs.drop 1).map V.int)) hc1
  generalize Store.upd σ8 c1 _ = σ9 at M10 ⊢
  repeat k_extra "m"
  intro c2 hc2
  have M11 := M10.new (.list [.int 8, .int 8]) hc2
  generalize Store.upd σ9 c2 _ = σ10 at M11 ⊢
  repeat k_extra "m"
  refine BinWP.cat (.inl (M11.get 1 rfl)) (.inl (M11.get 0 rfl)) (by simp [sizeLine_eq]; (first | lia | omega)) fun c3 hc3 => ?_
  have e8 : (cs.drop 1).map V.int ++ [V.int 8, V.int 8] = (cs.drop 1 ++ [8, 8]).map V.int := by simp
  rw [e8]
  have M12 := M11.new (.list ((cs.drop 1 ++ [8, 8]).map V.int)) hc3
  generalize Store.upd σ10 c3 _ = σ11 at M12 ⊢
  have M13 := (M12.sub (l' := (c3, _) :: (se, _) :: (o4, _) :: (o3, _) :: (o2, _) :: (o1, _) :: (od, _) :: (hl', _) :: (tabE :: fp a [] (hs.map (·.1)) (LS.new (hs.map (·.1.name))))) ((((List.Sublist.refl _).cons _).cons _).cons_cons _)).perm (perm8 _ _ _ _ _ _ _ _ _).symm
  have L13 : LAt σ11 a [] (hs.map (·.1)) (LS.new (hs.map (·.1.name))) (ownL ⟨od, o1, o2, o3, o4⟩ ⟨[], [], [], []⟩ ++ (hl', .list (hs.map fun p => p.1.tv p.2)) :: [(se, .list []), (c3, .list ((cs.drop 1 ++ [8, 8]).map V.int))]) := LAt.back rfl M13
  have hdl : (cs.drop 1 ++ [8, 8]).length ≤ 64 := by simp; (first | lia | omega)
  refine ⟨_, _, ItV.list hh' (.inl (M12.get 0 rfl)), ?_⟩
  refine ForL.inv (fun i : Int => V.int i) (fun rest ρ σ => ∃ b o fs s, Cpl (hs.map (·.1)) o s ∧ OOk (hs.map (·.1)) o ∧ s.events.length + rest.length ≤ 64 ∧ s.log.length + 9 * rest.length ≤ 600 ∧ o.line.length + rest.length ≤ 64 ∧ (∀ e ∈ s.events, PyData.strOk e.word = true ∧ PyData.strOk e.road = true)
      ∧ LAt σ a fs (hs.map (·.1)) s (ownL b o ++ (hl', .list (hs.map fun p => p.1.tv p.2)) :: [(se, .list (s.events.map Evt.v)), (c3, .list ((cs.drop 1 ++ [8, 8]).map V.int))])
      ∧ ρ.get "_law_loom" = some (.ref a.lo) ∧ ρ.get "_law_own" = some (.ref b.d) ∧ ρ.get "_law_handlers" = some (.ref hl') ∧ ρ.get "_law_sent" = some (.ref se)) ?_ ?_ _ _ _ ⟨⟨od, o1, o2, o3, o4⟩, ⟨[], [], [], []⟩, [], _, P6, ⟨List.nodup_nil, (fun _ h => by cases h), (fun _ h => by cases h), Nat.zero_le _, (fun _ h => by cases h), (fun _ h => by cases h)⟩, by simpa [LS.new] using hdl, by simp [LS.new]; (first | lia | omega), by simpa using hdl, (fun _ h => by cases h), L13, by k_extra "mget", by k_extra "mget", by k_extra "mget", by k_extra "mget"⟩
  · rintro cell rest ρ σ12 ⟨b, o, fs, s, P, W, z1, z2, z3, ze, L, r1, r2, r3, r4⟩
    simp only [List.length_cons] at z1 z2 z3
    have Ok := P.ok K (by (first | lia | omega)) (by (first | lia | omega)) (by (first | lia | omega))
    have w1 : o.log.length ≤ 600 := by rw [← P.log]; (first | lia | omega)
    repeat k_extra "m"
    by_cases hc : cell.fmod 3 = 0
    · refine Br.t (by simpa using hc) ?_
      have b0 : 0 ≤ (cell.fdiv 3).fmod 4 := Int.fmod_nonneg_of_pos _ (by (first | lia | omega))
      have b1 : (cell.fdiv 3).fmod 4 < 4 := Int.fmod_lt_of_pos _ (by (first | lia | omega))
      obtain ⟨w, pw, iw, sw, lw⟩ := pickWord ((cell.fdiv 3).fmod 4).toNat (by (first | lia | omega))
      repeat k_extra "m"
      intro x1 hx1
      repeat k_extra "m"
      refine ItemWP.list (y := .str w) (.inl Store.hit) b0 (by (first | lia | omega)) pw ?_
      have L1 := L.grow (Grow.rfl'.fresh (o := .list [.str (Str.ofString "bell"), .str (Str.ofString "bull"), .str (Str.ofString "bellbellbell"), .str (Str.ofString "bel")]) hx1)
      generalize Store.upd σ12 x1 _ = σ13 at L1 ⊢
      have g1 := L1.led.get 1 rfl
      have g2 := L1.led.get 2 rfl
      repeat k_extra "m"
      refine c_send hK (by (first | lia | omega)) hh' L1 Ok.1.Z iw lw fun σ14 L2 => ?_
      have M := L2.front
      have h0 := M.get 0 rfl
      have h2 := M.get 2 rfl
      have h6 := M.get 6 rfl
      repeat k_extra "m"
      have Ma := M.set 2 (.list ((o.line ++ [((s.events.length : Int), w)]).map lineV)) rfl
      have ea : (o.line ++ [((s.events.length : Int), w)]).map lineV = o.line.map lineV ++ [.tup [.int s.events.length, .str w]] := by simp [lineV]
      rw [ea] at Ma
      generalize Store.upd σ14 b.l _ = σ15 at Ma ⊢
      have h0 := Ma.get 0 rfl
      have h3 := Ma.get 3 rfl
      repeat k_extra "m"
      have Mb := Ma.set 3 (.list ((o.log ++ [Row.send s.events.length]).map Row.v)) rfl
      have eb : (o.log ++ [Row.send s.events.length]).map Row.v = o.log.map Row.v ++ [.tup [.str (Str.ofString "send"), .int s.events.length]] := by simp [Row.v]
      rw [eb] at Mb
      generalize Store.upd σ15 b.g _ = σ16 at Mb ⊢
      have h6 := Mb.get 6 rfl
      repeat k_extra "m"
      have Mc := Mb.set 6 (.list ((s.send w).events.map Evt.v)) rfl
      have ec : (s.send w).events.map Evt.v = s.events.map Evt.v ++ [.tup [.str w, .none, .str (Str.ofString "wait"), .int 0]] := by simp [LS.send, Evt.v, optV, P.time]
      rw [ec] at Mc
      generalize Store.upd σ16 se _ = σ17 at Mc ⊢
      have h7 := Mc.get 7 rfl
      rw [← ea, ← eb, ← ec] at Mc
      refine ⟨.inl h7, b, _, fs, s.send w, P.send sw, ⟨W.nd, W.sub, fun p hp => ?_, W.rl, W.ro, fun p hp => ?_⟩, by simp [LS.send]; (first | lia | omega), by simp [LS.send]; (first | lia | omega), by simp; (first | lia | omega), fun e he => ?_, LAt.back L.len Mc, by k_extra "mget", by k_extra "mget", by k_extra "mget", by k_extra "mget"⟩
      · rcases List.mem_append.mp hp with hp | hp
        · exact W.wok p hp
        · rw [List.mem_singleton.mp hp]; exact sw
      · rcases List.mem_append.mp hp with hp | hp
        · exact W.lo p hp
        · rw [List.mem_singleton.mp hp]; trivial
      · rcases List.mem_append.mp he with he | he
        · exact ze e he
        · rw [List.mem_singleton.mp he]; exact ⟨sw, strOk_ofString _⟩
    · refine Br.f (by simpa using hc) ?_
      have b0 : 0 ≤ (cell.fdiv 3).fmod 9 := Int.fmod_nonneg_of_pos _ (by (first | lia | omega))
      have b1 : (cell.fdiv 3).fmod 9 < 9 := Int.fmod_lt_of_pos _ (by (first | lia | omega))
      obtain ⟨m, hm⟩ := Int.eq_ofNat_of_zero_le b0
      repeat k_extra "m"
      rw [hm]
      refine c_own hK E (by (first | lia | omega)) hh' (by (first | lia | omega)) K hds z40 (by (first | lia | omega)) P W (by (first | lia | omega)) (by (first | lia | omega)) (by (first | lia | omega)) L fun b' o' fs' s' σ' P' W' e1 e2 e3 e4 L' => ?_
      have h7 := L'.front.get 7 rfl
      repeat k_extra "m"
      exact ⟨.inl h7, b', o', fs', s', P', W', by rw [e1]; (first | lia | omega), by (first | lia | omega), by (first | lia | omega), by rw [e1]; exact ze, by rw [e1]; exact L', by k_extra "mget", by rw [e4]; k_extra "mget", by k_extra "mget", by k_extra "mget"⟩
  rintro ρ σ12 ⟨b, o, fs, s, P, W, z1, z2, z3, ze, L, r1, r2, r3, r4⟩
  simp only [List.length_nil] at z1 z2 z3
  have M := L.front
  have h0 := M.get 0 rfl
  have h3 := M.get 3 rfl
  have w1 : o.log.length ≤ 600 := by rw [← P.log]; (first | lia | omega)
  have hcok : ∀ n ∈ calledF o.log, PyData.strOk n = true := by
    intro n hn
    unfold calledF at hn
    obtain ⟨r, hr, e⟩ := List.mem_filterMap.mp hn
    have := W.lo r hr
    cases r with
    | call k h => cases e; exact this
    | _ => cases e
  repeat k_extra "m"
  refine ⟨_, _, ItV.list hh' (.inl h3), fun L' => ?_⟩
  refine CmpL.pure callP third (.inl h3) _ _ ?_ ?_ (by simp [sizeLine_eq]; (first | lia | omega)) ?_
  · intro y hy Q hQ
    obtain ⟨r, hr, rfl⟩ := List.mem_map.mp hy
    cases r <;> (simp only [Row.v]; repeat k_extra "m") <;> exact hQ
  · intro y hy hc Q hQ
    obtain ⟨r, hr, rfl⟩ := List.mem_map.mp hy
    cases r with
    | call n h =>
      simp only [Row.v]
      repeat k_extra "m"
      exact hQ
    | _ => exact absurd hc (by show ¬ ((_ == Str.ofString "call") = true); decide +kernel)
  intro z hz
  rw [List.nil_append, called_eq]
  have M1 := M.new (.list ((calledF o.log).map V.str)) hz
  generalize Store.upd σ12 z _ = σ13 at M1 ⊢
  have c0 := M1.get 0 rfl
  have c6 := M1.get 6 rfl
  have hcl : (calledF o.log).length ≤ 600 := by
    exact Nat.le_trans (List.length_filterMap_le _ _) w1
  repeat k_extra "m"
  refine ⟨_, _, ItV.list hh' (.inl c6), fun L' => ?_⟩
  refine CmpL.pure (leftP (calledF o.log)) firstV (.inl c6) _ _ ?_ ?_ (by simp [sizeLine_eq]; (first | lia | omega)) ?_
  · intro y hy Q hQ
    obtain ⟨p, hp, rfl⟩ := List.mem_map.mp hy
    have hQ : Q (!(p.1.once && (calledF o.log).contains p.1.name)) σ13 := hQ
    simp only [Hn.tv]
    repeat k_extra "m"
    cases q : p.1.once with
    | false =>
      rw [q] at hQ
      repeat k_extra "m"
      simpa using hQ
    | true =>
      rw [q, Bool.true_and] at hQ
      repeat k_extra "m"
      refine CmpWP.inStrs (by (first | lia | omega)) c0 (H.name z40 p hp).2 hcok ?_
      cases q2 : (calledF o.log).contains p.1.name with
      | true =>
        rw [q2] at hQ
        repeat k_extra "m"
        exact hQ
      | false =>
        rw [q2] at hQ
        repeat k_extra "m"
        exact hQ
  · intro y hy hc Q hQ
    obtain ⟨p, hp, rfl⟩ := List.mem_map.mp hy
    simp only [Hn.tv]
    repeat k_extra "m"
    exact hQ
  intro z2 hz2
  rw [List.nil_append, left_eq, ← P.log, ← P.posts]
  have M2 := M1.new (.list (s.posts.map V.str)) hz2
  generalize Store.upd σ13 z2 _ = σ14 at M2 ⊢
  have L2 : LAt σ14 a fs (hs.map (·.1)) s ((z2, .list (s.posts.map V.str)) :: (z, .list ((calledF o.log).map V.str)) :: (ownL b o ++ (hl', .list (hs.map fun p => p.1.tv p.2)) :: [(se, .list (s.events.map Evt.v)), (c3, .list ((cs.drop 1 ++ [8, 8]).map V.int))])) := LAt.back L.len M2
  have Ok := P.ok K (by (first | lia | omega)) (by (first | lia | omega)) (by (first | lia | omega))
  have g1 := L2.led.get 1 rfl
  have g2 := L2.led.get 2 rfl
  have g6 := L2.led.get 6 rfl
  repeat k_extra "m"
  refine c_kinds hK hr1 hh' (tss := s.log.map rowK) (by rw [← rows_kinds]; exact g6) (by simp; (first | lia | omega)) (fun p hp => ?_) fun σ15 G15 => ?_
  · obtain ⟨r, hr, rfl⟩ := List.mem_map.mp hp
    exact rowK_plain r
  have L3 := L2.grow G15
  have g1 := L3.led.get 1 rfl
  have g2 := L3.led.get 2 rfl
  have g5 := L3.led.get 5 rfl
  repeat k_extra "m"
  refine c_kinds hK hr1 hh' (tss := s.events.map evK) (by rw [← evs_kinds]; exact g5) (by simp; (first | lia | omega)) (fun p hp => ?_) fun σ16 G16 => ?_
  · obtain ⟨r, hr, rfl⟩ := List.mem_map.mp hp
    exact evK_plain r
  have L4 := L3.grow G16
  have M4 := L4.front
  have g1 := L4.led.get 1 rfl
  have g2 := L4.led.get 2 rfl
  have g5 := L4.led.get 5 rfl
  have g6 := L4.led.get 6 rfl
  have h0 := M4.get 2 rfl
  have h3 := M4.get 5 rfl
  have h8 := M4.get 8 rfl
  repeat k_extra "m"
  rw [← P.log] at h3
  refine eq_rows (by (first | lia | omega)) g6 h3 (by rw [P.log]; exact W.lo) ?_
  repeat k_extra "m"
  refine eq_evs (by (first | lia | omega)) g5 h8 ze ?_
  repeat k_extra "m"
  refine Br.t (by rw [P.time]; rfl) ?_
  repeat k_extra "m"
  refine c_standing hK hr1 hh' L4 Ok.1.Z.po fun x5 σ17 hx5 L5 G17 => ?_
  have q1 : σ17 x5 = some (.list (s.posts.map V.str)) := L5.front.get 0 rfl
  have q2 : σ17 z2 = some (.list (s.posts.map V.str)) := L5.front.get 1 rfl
  repeat k_extra "m"
  refine eq_strs (by (first | lia | omega)) q1 q2 Ok.1.N.po ?_
  repeat k_extra "m"
  all_goals first | rfl | exact ⟨_, L5.led.get 0 rfl, _, _, rfl⟩ | exact ⟨rfl, _, L5.led.get 0 rfl, _, _, rfl⟩

end Mine
theorem PySem.Challenge.cw_uf030038_06_holds : PySem.Challenge.rw_uf030038_06.Holds := by
  refine Mine.hd ?_
  intro w s₀ s₁ mg mb G Y fa o pm cd doc dV kV ho hd hcd hD hmg hg args vals as hpre hlay hrd hwl hlo
  have KX := km_in_of Y
  have hP := km_tabs_of Y 140 (by simp)
  have hC : CodeHd s₁.heap 142 140 := codeHd_of_K KX (by kernel_rfl)
  refine Ground.open G ?_
  intro T B D TE TW
  clear ho hd hcd hD
  wrow_args hpre hlay hrd hwl hlo
  rename IntsAre _ _ => hI
  rename s₁.heap.IsList _ _ => hL
  rename ¬ _ < _ => hn
  have hfa : fa = 378 := by
    have e := mg_of (n := Str.ofString "law") (v := .ref 378) KX T.g (by k_is)
    have hn : Mine.dL.name = Str.ofString "law" := by kernel_rfl
    rw [hn] at hmg
    rw [hmg] at e
    cases e; rfl
  subst hfa
  refine wpAny_mono (Mine.glueT (pos := ⟨85, 29, 85, 58⟩) (q := Str.ofString "hearers" ++ Str.ofString ".<locals>." ++ Str.ofString "<lambda>") KX T hC hP (by kernel_rfl) (by decide) hg hL hI ?_) ?_ fun _ _ z => z.elim
  · intro C e1 e2 e3 e4 e5 e6 e7
    subst e2
    exact Mine.c_law e3 e4 e7 e6 e5 (by (first | lia | omega))
  · rintro v s' ⟨rfl, k1, k2, k3⟩
    exact ⟨.inl ⟨_, .bool true, [], rfl, fun _ => rfl, .bool true, postW_of (X := true == true) (by rfl) (w_eq_bool (w_res rfl) w_lit) rfl, fun _ => ⟨List.nodup_nil, fun a ha => by cases ha⟩⟩, k1, k2, k3⟩

