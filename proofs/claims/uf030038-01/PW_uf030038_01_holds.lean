import PyProof.Rows.All
import Wide.All
import OpenK.AllK
import Wide.FinOn
import OpenK.KWalk
import PyProof.Cells
import PyProof.CompFree
import PyProof.CompUse
import PyProof.DictCalls
import PyProof.PlainList
import PyProof.Rules3
import PyProof.ListIndex
import PyProof.Rows.Frame
import PyProof.RangeFor
import PyProof.Rules2
import PyProof.PureInt
import PyProof.NoPylong
import PyProof.Rows.RuleB_floordiv
import PyProof.Rows.RuleB_mod
import PyProof.Rows.StrRules
import PyProof.Rows.Chain
import PyProof.Raises
import PyProof.RulesAssignMore
import PyProof.RulesMatch
import PyProof.TupleIter
import PyProof.LetGo
import PyProof.AssignAttr
import OpenK.KMore
import PyProof.CallRoads
import PyProof.CompMap
import PyProof.Walks
import PyProof.RangeIter
import PyProof.P3In
import PyProof.ListTruth
import PyProof.ListIndexNeg
import PyProof.SliceList
import PyProof.FactsAll.list_3
import PyProof.FactsAll.list_4
import PyProof.Rows.Tup
import PyProof.SeqWrite
import PyProof.ReprLoop
import PyProof.IsiPairs
import PyProof.IsiHeapPairs
import PyProof.IsiNone
import PyProof.ListCopy
import PyProof.TupleOfSeq
import PyProof.TupleCall
import PyProof.StrCalls2
import PyProof.ConsumeWalk
import PyProof.Rows.RuleN_abs
import PyProof.Rows.SeqMore
import PyProof.CallStr
import PyProof.StrBlock2
import PyProof.DictDisplay
import PyProof.DictTruth
import KE.KNestM
import OpenK.KLine
import PyProof.DictTable
import PyProof.MeetsSeq
import KE.LcSums
import PyProof.P3Eq
import PyProof.Rows.TupAssign
import KE.KSortTup
import OpenK.KMake
import PyProof.TupleKey
import PyProof.FactsAll.tuple_1
import PyProof.FactsAll.tuple_2
import PyProof.FactsAll.dict_3
import PyProof.MeetsDictList
import PyProof.MinMaxWalk
import KE.KLam
import KE.KSortKey
import PyProof.DefCall
import PyProof.Rows.CallKw2
import PyProof.SliceStr2
import PyProof.StrBlockI
import PyProof.Rows.TopCatch
import PyProof.ExcBaseAll.ValueError
import KE.KTryMore
import KE.KIsAll
import PyProof.ExcAttrAll.ValueError
import PyProof.StrWalks
import PyProof.StrBlock
import PyProof.EqAt
import PySem.Challenge.RW_uf030038_01
set_option autoImplicit false
namespace Mine
open PySem PySem.W

/-- abstract values -/
inductive V where
  | none | bool (b : Bool) | int (i : Int) | str (s : Str) | tup (vs : List V) | rng (a b : Int) | ref (a : Addr) | typ (n : String) | blt (i : String)
  deriving Inhabited

abbrev tupObj (items : Array Value) (n : Nat) : Obj := { cls := .type "tuple", data := .seq items n }

mutual
inductive VR (h : Heap) : Value → V → Prop where
  | none : VR h .none .none
  | bool (b : Bool) : VR h (.bool b) (.bool b)
  | int (i : Int) (t : Tok) : VR h (.int i t) (.int i)
  | str (s : Str) (t : Tok) : VR h (.str s t) (.str s)
  | typ (n : String) : VR h (.type n) (.typ n)
  | blt (i : String) : VR h (.builtin i) (.blt i)
  | ref (a : Addr) : VR h (.ref a) (.ref a)
  | tup {a : Addr} {items : Array Value} {n : Nat} {vs : List V} : h.get? a = some (tupObj items n) → VRs h items.toList vs → VR h (.ref a) (.tup vs)
  | rng {r : Addr} {a b : Int} {t u v : Tok} : IsRange h r a b 1 t u v → VR h (.ref r) (.rng a b)
inductive VRs (h : Heap) : List Value → List V → Prop where
  | nil : VRs h [] []
  | cons {v : Value} {vs : List Value} {x : V} {xs : List V} : VR h v x → VRs h vs xs → VRs h (v :: vs) (x :: xs)
end

/-- objects that nothing changes -/
def Imm (o : Obj) : Prop := (∃ items n, o = tupObj items n) ∨ (∃ vs, o = { cls := .type "range", data := .fields vs }) ∨ (o.cls = .type "code" ∧ ∃ vs, o.data = .fields vs)
theorem Imm.tup (items : Array Value) (n : Nat) : Imm (tupObj items n) := .inl ⟨_, _, rfl⟩
theorem Imm.not {o : Obj} (h1 : o.cls ≠ .type "tuple") (h2 : o.cls ≠ .type "range") (h3 : o.cls ≠ .type "code") : ¬ Imm o := by
  rintro (⟨_, _, rfl⟩ | ⟨_, rfl⟩ | ⟨e, _⟩)
  · exact h1 rfl
  · exact h2 rfl
  · exact h3 e
theorem Imm.notDict {o : Obj} {es : Array DictEntry} {n : Nat} (h : o.data = .dict es n) : ¬ Imm o := by
  rintro (⟨_, _, rfl⟩ | ⟨_, rfl⟩ | ⟨_, _, e⟩)
  · cases h
  · cases h
  · rw [h] at e; cases e
theorem Imm.notCell {o : Obj} {v : Option Value} (h : o.data = .cell v) : ¬ Imm o := by
  rintro (⟨_, _, rfl⟩ | ⟨_, rfl⟩ | ⟨_, _, e⟩)
  · cases h
  · cases h
  · rw [h] at e; cases e
/-- every such object of h stands in h' -/
def TupKeep (h h' : Heap) : Prop := ∀ a o, Imm o → h.get? a = some o → h'.get? a = some o

theorem TupKeep.refl (h : Heap) : TupKeep h h := fun _ _ _ e => e
theorem TupKeep.trans {h1 h2 h3 : Heap} (x : TupKeep h1 h2) (y : TupKeep h2 h3) : TupKeep h1 h3 := fun a i n e => y a i n (x a i n e)

mutual
theorem VR.mono {h h' : Heap} (k : TupKeep h h') : ∀ {v : Value} {x : V}, VR h v x → VR h' v x
  | _, _, .none => .none
  | _, _, .bool b => .bool b
  | _, _, .int i t => .int i t
  | _, _, .str s t => .str s t
  | _, _, .typ n => .typ n
  | _, _, .blt i => .blt i
  | _, _, .ref a => .ref a
  | _, _, .tup e r => .tup (k _ _ (.tup _ _) e) (VRs.mono k r)
  | _, _, .rng e => .rng (k _ _ (.inr (.inl ⟨_, rfl⟩)) e)
theorem VRs.mono {h h' : Heap} (k : TupKeep h h') : ∀ {v : List Value} {x : List V}, VRs h v x → VRs h' v x
  | _, _, .nil => .nil
  | _, _, .cons a b => .cons (VR.mono k a) (VRs.mono k b)
end

theorem VRs.length {h : Heap} : ∀ {v : List Value} {x : List V}, VRs h v x → v.length = x.length
  | _, _, .nil => rfl
  | _, _, .cons _ b => congrArg (· + 1) (VRs.length b)

theorem VRs.append {h : Heap} : ∀ {v : List Value} {x : List V} {v' : List Value} {x' : List V}, VRs h v x → VRs h v' x' → VRs h (v ++ v') (x ++ x')
  | _, _, _, _, .nil, r => r
  | _, _, _, _, .cons a b, r => .cons a (VRs.append b r)

theorem VRs.get {h : Heap} : ∀ {v : List Value} {x : List V}, VRs h v x → ∀ {i : Nat} {y : V}, x[i]? = some y → ∃ u, v[i]? = some u ∧ VR h u y
  | _, _, .nil, _, _, e => by simp at e
  | _, _, .cons a b, 0, _, e => by simp at e; subst e; exact ⟨_, rfl, a⟩
  | _, _, .cons a b, i + 1, _, e => by
    obtain ⟨u, h1, h2⟩ := VRs.get b (i := i) (by simpa using e)
    exact ⟨u, by simpa using h1, h2⟩

/-- the run's surroundings -/
structure Cx where
  prog : Program
  w : World
  h₀ : Heap
  gens : Array GenState
  os : OsState
  n₀ : Nat
  low : ∀ b o, h₀.get? b = some o → b < n₀
  top : ∀ m, n₀ = m + 1 → ∃ o, h₀.get? m = some o
  K : Frag
  KX : K.In h₀
  mg : Str → Option Value
  mb : Str → Option Value
  hg : h₀.Ns mainGlobals mg
  hb : h₀.Ns builtinsNs mb
  blt : ∀ x : Str, x ≠ "__name__" → mb x = bootBuiltins x
  lim : h₀.NoLimit
  tabs : List Addr
  /-- nothing is said of where new objects lie -/
  loose : Prop
abbrev Cx.M (C : Cx) : Model := model C.prog C.w

/-- abstract objects -/
inductive O where
  | list (vs : List V)
  | sd (es : List (Str × V))
  | id (es : List (Int × V))
  | inst (cls dx : Addr)
  | tab (pos : Pos) (q : Str)
  | exc (cls : Addr)

abbrev Store := Addr → Option O
def Store.upd (σ : Store) (a : Addr) (o : O) : Store := fun b => if b = a then some o else σ b
theorem Store.upd_self (σ : Store) (a : Addr) (o : O) : σ.upd a o a = some o := by simp [Store.upd]
theorem Store.upd_ne (σ : Store) {a b : Addr} (o : O) (h : b ≠ a) : σ.upd a o b = σ b := by simp [Store.upd, h]

inductive PR {K : Type} (h : Heap) : List (K × Value) → List (K × V) → Prop
  | nil : PR h [] []
  | cons {k : K} {v : Value} {x : V} {r : List (K × Value)} {r' : List (K × V)} : VR h v x → PR h r r' → PR h ((k, v) :: r) ((k, x) :: r')

theorem PR.mono {K : Type} {h h' : Heap} (k : TupKeep h h') : ∀ {a : List (K × Value)} {b : List (K × V)}, PR h a b → PR h' a b
  | _, _, .nil => .nil
  | _, _, .cons x y => .cons (x.mono k) (PR.mono k y)

abbrev instO (C dx : Addr) : Obj := { cls := .ref C, dict := some dx }

def Rep (C : Cx) (h : Heap) (a : Addr) : O → Prop
  | .list vs => ∃ items, h.PlainList a items ∧ VRs h items.toList vs
  | .sd es => ∃ kvs, h.DictOf (strKind C.prog C.w) a kvs ∧ PR h kvs es
  | .id es => ∃ kvs, h.DictOf (intKind C.prog C.w) a kvs ∧ PR h kvs es
  | .inst c dx => h.get? a = some (instO c dx)
  | .tab pos q => h.get? a = some { cls := .none, data := .fields #[] } ∨ ∃ c' o vs t, h.get? a = some { cls := .none, data := .fields #[rawInt pos.line, rawInt pos.col, .ref c'] } ∧ h.get? c' = some o ∧ o.cls = .type "code" ∧ o.data = .fields vs ∧ vs[1]? = some (.str q t)
  | .exc c => ∃ o vs, h.get? a = some o ∧ o.cls = .ref c ∧ o.data = .fields vs

theorem Rep.isSome {C : Cx} {h : Heap} {a : Addr} {o : O} (r : Rep C h a o) : ∃ x, h.get? a = some x ∧ ¬ Imm x := by
  cases o with
  | list vs => obtain ⟨items, ⟨n, e⟩, _⟩ := r; exact ⟨_, e, Imm.not (by simp) (by simp) (by simp)⟩
  | sd es =>
    obtain ⟨kvs, d, _⟩ := r
    obtain ⟨o, es, ep, ho, hx, _⟩ := d
    exact ⟨o, ho, Imm.not (by rw [hx.1]; decide) (by rw [hx.1]; decide) (by rw [hx.1]; decide)⟩
  | id es =>
    obtain ⟨kvs, d, _⟩ := r
    obtain ⟨o, es, ep, ho, hx, _⟩ := d
    exact ⟨o, ho, Imm.not (by rw [hx.1]; decide) (by rw [hx.1]; decide) (by rw [hx.1]; decide)⟩
  | inst c dx => exact ⟨_, r, Imm.not (fun z => by cases z) (fun z => by cases z) (fun z => by cases z)⟩
  | tab pos q =>
    rcases r with e | ⟨c', o, vs, t, e, _⟩
    · exact ⟨_, e, Imm.not (fun z => by cases z) (fun z => by cases z) (fun z => by cases z)⟩
    · exact ⟨_, e, Imm.not (fun z => by cases z) (fun z => by cases z) (fun z => by cases z)⟩
  | exc c =>
    obtain ⟨o, vs, e, hc, _⟩ := r
    exact ⟨o, e, Imm.not (fun z => by rw [hc] at z; cases z) (fun z => by rw [hc] at z; cases z) (fun z => by rw [hc] at z; cases z)⟩

/-- a represented object stands as it stood where it is kept itself and all tuples are -/
theorem Rep.at {C : Cx} {h h' : Heap} {a : Addr} {o : O} (r : Rep C h a o) (k : ∀ x, h.get? a = some x → h'.get? a = some x) (t : TupKeep h h') : Rep C h' a o := by
  cases o with
  | list vs => obtain ⟨items, p, q⟩ := r; exact ⟨items, p.at k, q.mono t⟩
  | sd es =>
    obtain ⟨kvs, d, q⟩ := r
    obtain ⟨o, es', ep, ho, rest⟩ := d
    exact ⟨kvs, ⟨o, es', ep, k _ ho, rest⟩, q.mono t⟩
  | id es =>
    obtain ⟨kvs, d, q⟩ := r
    obtain ⟨o, es', ep, ho, rest⟩ := d
    exact ⟨kvs, ⟨o, es', ep, k _ ho, rest⟩, q.mono t⟩
  | inst c dx => exact k _ r
  | tab pos q =>
    rcases r with e | ⟨c', o, vs, u, e, e2, h1, h2, h3⟩
    · exact .inl (k _ e)
    · exact .inr ⟨c', o, vs, u, k _ e, t _ _ (.inr (.inr ⟨h1, vs, h2⟩)) e2, h1, h2, h3⟩
  | exc c =>
    obtain ⟨o, vs, e, r⟩ := r
    exact ⟨o, vs, k _ e, r⟩

structure St (C : Cx) (σ : Store) (s : Shared) : Prop where
  base : ∀ b o, C.h₀.get? b = some o → s.heap.get? b = some o
  rep : ∀ a o, σ a = some o → Rep C s.heap a o
  above : ∀ a o, σ a = some o → C.h₀.get? a = none ∧ (C.n₀ ≤ a ∨ a ∈ C.tabs ∨ C.loose)
  gens : s.gens = C.gens
  os : s.os = C.os

theorem St.size {C : Cx} {σ : Store} {s : Shared} (S : St C σ s) : C.n₀ ≤ s.heap.objs.size := by
  cases q : C.n₀ with
  | zero => exact Nat.zero_le _
  | succ m =>
    obtain ⟨o, e⟩ := C.top m q
    exact Heap.lt_size (S.base m o e)

/-- an object stands as it stood; a dict (so: a frame) may have other slots -/
def Kept (h' : Heap) (b : Addr) (o : Obj) : Prop := h'.get? b = some o ∨ ((∃ es n, o.data = .dict es n) ∧ ∃ sl, h'.get? b = some { o with slots := sl })
theorem Kept.got {h' : Heap} {b : Addr} {o : Obj} (x : Kept h' b o) : ∃ o', h'.get? b = some o' := by
  rcases x with x | ⟨_, _, x⟩ <;> exact ⟨_, x⟩
theorem Kept.trans {h1 h2 : Heap} {b : Addr} {o : Obj} (x : Kept h1 b o) (k : ∀ o', h1.get? b = some o' → Kept h2 b o') : Kept h2 b o := by
  rcases x with x | ⟨⟨es, n, d⟩, sl, x⟩
  · exact k _ x
  · rcases k _ x with y | ⟨_, sl', y⟩
    · exact .inr ⟨⟨es, n, d⟩, sl, y⟩
    · exact .inr ⟨⟨es, n, d⟩, sl', y⟩
theorem Kept.exact {h' : Heap} {b : Addr} {o : Obj} (x : Kept h' b o) (hn : ∀ es n, o.data ≠ .dict es n) : h'.get? b = some o := by
  rcases x with x | ⟨⟨es, n, d⟩, _⟩
  · exact x
  · exact absurd d (hn es n)
theorem Kept.same {h' : Heap} {b : Addr} {o : Obj} (x : Kept h' b o) : ∃ o', h'.get? b = some o' ∧ o'.data = o.data := by
  rcases x with x | ⟨_, _, x⟩
  · exact ⟨_, x, rfl⟩
  · exact ⟨_, x, rfl⟩
structure Evo (σ : Store) (h : Heap) (σ' : Store) (h' : Heap) : Prop where
  keep : ∀ b o, h.get? b = some o → σ b = none → Kept h' b o
  dom : ∀ b o, σ' b = some o → (∃ o', σ b = some o') ∨ h.get? b = none
  mono : ∀ b o, σ b = some o → ∃ o', σ' b = some o'
  tup : TupKeep h h'

theorem Evo.refl (σ : Store) (h : Heap) : Evo σ h σ h := ⟨fun _ _ e _ => .inl e, fun _ _ e => .inl ⟨_, e⟩, fun _ _ e => ⟨_, e⟩, .refl _⟩
theorem Evo.trans {σ1 σ2 σ3 : Store} {h1 h2 h3 : Heap} (x : Evo σ1 h1 σ2 h2) (y : Evo σ2 h2 σ3 h3) : Evo σ1 h1 σ3 h3 := by
  refine ⟨fun b o e n => ?_, fun b o e => ?_, fun b o e => ?_, x.tup.trans y.tup⟩
  · refine (x.keep b o e n).trans fun o' e' => y.keep b o' e' ?_
    cases q : σ2 b with
    | none => rfl
    | some o2 =>
      rcases x.dom b o2 q with ⟨o', e'⟩ | e'
      · rw [n] at e'; cases e'
      · rw [e] at e'; cases e'
  · rcases y.dom b o e with ⟨o', e'⟩ | e'
    · exact x.dom b o' e'
    · cases q : h1.get? b with
      | none => exact .inr rfl
      | some o1 =>
        left
        cases q' : σ1 b with
        | some o' => exact ⟨o', rfl⟩
        | none =>
          obtain ⟨o', z⟩ := (x.keep b o1 q q').got
          rw [z] at e'; cases e'
  · obtain ⟨o', e'⟩ := x.mono b o e
    exact y.mono b o' e'

/-- raw raised values and states -/
abbrev XP := Value → Shared → Prop

/-- what a tree of values gives -/
def EP (C : Cx) (σ : Store) (h : Heap) (Q : V → Store → Prop) (v : Value) (s' : Shared) : Prop :=
  ∃ x σ', Q x σ' ∧ VR s'.heap v x ∧ St C σ' s' ∧ Evo σ h σ' s'.heap

theorem EP.mono {C : Cx} {σ : Store} {h : Heap} {Q Q' : V → Store → Prop} {v : Value} {s' : Shared} (x : EP C σ h Q v s') (k : ∀ x σ', Q x σ' → Q' x σ') : EP C σ h Q' v s' :=
  let ⟨a, b, c, d⟩ := x; ⟨a, b, k _ _ c, d⟩
theorem EP.after {C : Cx} {σ σ1 : Store} {h h1 : Heap} {Q : V → Store → Prop} {v : Value} {s' : Shared} (x : EP C σ1 h1 Q v s') (k : Evo σ h σ1 h1) : EP C σ h Q v s' :=
  let ⟨a, b, c, d, e, f⟩ := x; ⟨a, b, c, d, e, k.trans f⟩

/-- names to values -/
abbrev Rho := List (Str × V)
def Rho.get : Rho → Str → Option V
  | [], _ => none
  | (y, v) :: r, x => if x = y then some v else Rho.get r x
def Rho.put : Rho → Str → V → Rho
  | [], x, v => [(x, v)]
  | (y, u) :: r, x, v => if x = y then (x, v) :: r else (y, u) :: Rho.put r x v
theorem Rho.get_hit {x : Str} {v : V} {r : Rho} : Rho.get ((x, v) :: r) x = some v := by simp [Rho.get]
theorem Rho.get_miss {x y : Str} {u : V} {v : Option V} {r : Rho} (h : x ≠ y) (k : Rho.get r x = v) : Rho.get ((y, u) :: r) x = v := by simp [Rho.get, h, k]
theorem Rho.put_nil {x : Str} {v : V} : Rho.put [] x v = [(x, v)] := rfl
theorem Rho.put_hit {x : Str} {u v : V} {r : Rho} : Rho.put ((x, u) :: r) x v = (x, v) :: r := by simp [Rho.put]
theorem Rho.put_miss {x y : Str} {u v : V} {r r' : Rho} (h : x ≠ y) (k : Rho.put r x v = r') : Rho.put ((y, u) :: r) x v = (y, u) :: r' := by simp [Rho.put, h, k]
theorem Rho.get_put (x : Str) (v : V) : ∀ (r : Rho) (y : Str), Rho.get (Rho.put r x v) y = if y = x then some v else Rho.get r y
  | [], y => by simp [Rho.put, Rho.get]
  | (z, u) :: r, y => by
    have ih := Rho.get_put x v r y
    by_cases h : x = z
    · subst h
      simp only [Rho.put, if_true, Rho.get]
      by_cases h2 : y = x <;> simp [h2]
    · simp only [Rho.put, h, if_false, Rho.get]
      by_cases h2 : y = z
      · subst h2; simp [Ne.symm h]
      · simp [h2, ih]

/-- the frame -/
structure Fm (C : Cx) (σ : Store) (h : Heap) (env : Env) (ρ : Rho) : Prop where
  fn : env.scope.kind = .function
  loc : ∃ m, h.Ns env.locals m ∧ ∀ x v, env.kindOf x = some .local → ρ.get x = some v → ∃ u, m x = some u ∧ VR h u v
  locs : σ env.locals = none
  abv : C.n₀ ≤ env.locals
  cell : ∀ x c, env.cells.lookup x = some c → ∃ ov, h.IsCell c ov ∧ (∀ v, ρ.get x = some v → ∃ u, ov = some u ∧ VR h u v) 
  ncell : ∀ x c, env.cells.lookup x = some c → σ c = none ∧ c ≠ env.locals ∧ C.n₀ ≤ c
  apart : ∀ x y c, env.cells.lookup x = some c → env.cells.lookup y = some c → x = y

theorem isCell_at {h h' : Heap} {c : Addr} {v : Option Value} (x : h.IsCell c v) (k : ∀ o, h.get? c = some o → h'.get? c = some o) : h'.IsCell c v := by
  unfold Heap.IsCell at *
  obtain ⟨o, e, r⟩ := x
  exact ⟨o, k _ e, r⟩
theorem isCell_kept {h h' : Heap} {c : Addr} {v : Option Value} (x : h.IsCell c v) (k : ∀ o, h.get? c = some o → Kept h' c o) : h'.IsCell c v := by
  unfold Heap.IsCell at *
  obtain ⟨o, e, r⟩ := x
  obtain ⟨o', e', d⟩ := (k _ e).same
  exact ⟨o', e', d.trans r⟩
theorem ns_kept {h h' : Heap} {L : Addr} {m : Str → Option Value} (x : h.Ns L m) (k : ∀ o, h.get? L = some o → Kept h' L o) : h'.Ns L m := by
  obtain ⟨o, es, ep, ho, hd, rest⟩ := x
  obtain ⟨o', e', d⟩ := (k _ ho).same
  exact ⟨o', es, ep, e', d.trans hd, rest⟩

theorem Fm.evo {C : Cx} {σ σ' : Store} {h h' : Heap} {env : Env} {ρ : Rho} (F : Fm C σ h env ρ) (k : Evo σ h σ' h') : Fm C σ' h' env ρ := by
  obtain ⟨f1, ⟨m, hm, f2⟩, f3, f5, f6, f7, f8⟩ := F
  have hm' := ns_kept hm fun o e => k.keep _ _ e f3
  obtain ⟨o, es, ep, ho, rest⟩ := hm
  have nd : ∀ b o, h.get? b = some o → σ b = none → σ' b = none := fun b o e n => by
    cases q : σ' b with
    | none => rfl
    | some o2 =>
      rcases k.dom b o2 q with ⟨o', e'⟩ | e'
      · rw [n] at e'; cases e'
      · rw [e] at e'; cases e'
  refine ⟨f1, ⟨m, hm', fun x v hx hv => ?_⟩, nd _ _ ho f3, f5, fun x c hc => ?_, fun x c hc => ?_, f8⟩
  · obtain ⟨u, a, b⟩ := f2 x v hx hv
    exact ⟨u, a, b.mono k.tup⟩
  · obtain ⟨ov, a, b⟩ := f6 x c hc
    obtain ⟨n1, _, _⟩ := f7 x c hc
    refine ⟨ov, isCell_kept a fun o e => k.keep _ _ e n1, fun v hv => ?_⟩
    obtain ⟨u, p, q⟩ := b v hv
    exact ⟨u, p, q.mono k.tup⟩
  · obtain ⟨n1, n2, n3⟩ := f7 x c hc
    obtain ⟨ov, a, b⟩ := f6 x c hc
    have a' := a
    unfold Heap.IsCell at a'
    obtain ⟨o, e, _⟩ := a'
    exact ⟨nd _ _ e n1, n2, n3⟩

/-- an expression's evaluation -/
def Ev (C : Cx) (A : Around) (env : Env) (e : Expr) (ρ : Rho) (σ : Store) (Q : V → Store → Prop) (X : XP) : Prop :=
  ∀ s, St C σ s → Fm C σ s.heap env ρ → wpAny C.M A (eval e env) (EP C σ s.heap Q) X s

/-- a test -/
def Tst (C : Cx) (A : Around) (env : Env) (e : Expr) (ρ : Rho) (σ : Store) (Q : Bool → Store → Prop) (X : XP) : Prop :=
  ∀ s, St C σ s → Fm C σ s.heap env ρ → wpAny C.M A (isTrue e env (eval e env)) (fun b s' => ∃ σ', Q b σ' ∧ St C σ' s' ∧ Evo σ s.heap σ' s'.heap) X s

def BinWP (C : Cx) (A : Around) (op : Operator) (x y : V) (σ : Store) (Q : V → Store → Prop) (X : XP) : Prop :=
  ∀ s a b, St C σ s → VR s.heap a x → VR s.heap b y → wpAny C.M A (binaryOp op a b) (EP C σ s.heap Q) X s
def CmpWP (C : Cx) (A : Around) (op : CmpOp) (x y : V) (σ : Store) (Q : V → Store → Prop) (X : XP) : Prop :=
  ∀ s a b, St C σ s → VR s.heap a x → VR s.heap b y → wpAny C.M A (compareOp op a b) (EP C σ s.heap Q) X s
def UnWP (C : Cx) (A : Around) (op : UnaryOp) (x : V) (σ : Store) (Q : V → Store → Prop) (X : XP) : Prop :=
  ∀ s a, St C σ s → VR s.heap a x → wpAny C.M A (unaryOp op a) (EP C σ s.heap Q) X s
def TruWP (C : Cx) (A : Around) (x : V) (σ : Store) (Q : Bool → Store → Prop) (X : XP) : Prop :=
  ∀ s a, St C σ s → VR s.heap a x → wpAny C.M A (truthy a) (fun b s' => ∃ σ', Q b σ' ∧ St C σ' s' ∧ Evo σ s.heap σ' s'.heap) X s

section
variable {C : Cx} {A : Around} {env : Env} {ρ : Rho} {σ : Store} {X : XP}

theorem Ev.bin {l r : Expr} {op : Operator} {pos : Pos} {Q : V → Store → Prop}
    (h : Ev C A env l ρ σ (fun x σ1 => Ev C A env r ρ σ1 (fun y σ2 => BinWP C A op x y σ2 Q X) X) X) : Ev C A env (.BinOp l op r pos) ρ σ Q X := by
  intro s S F
  refine wpAny_BinOp (wpAny_mono (h s S F) ?_ fun _ _ z => z)
  rintro a s1 ⟨x, σ1, h1, r1, S1, e1⟩
  refine wpAny_mono (h1 s1 S1 (F.evo e1)) ?_ fun _ _ z => z
  rintro b s2 ⟨y, σ2, h2, r2, S2, e2⟩
  exact wpAny_mono (h2 s2 a b S2 (r1.mono e2.tup) r2) (fun _ _ z => (z.after e2).after e1) fun _ _ z => z
end

end Mine

set_option autoImplicit false
set_option linter.unusedVariables false
namespace Mine
open PySem PySem.W

theorem St.toks {C : Cx} {σ : Store} {s : Shared} (x : St C σ s) (t : Nat) : St C σ { s with toks := t } := ⟨x.base, x.rep, x.above, x.gens, x.os⟩

section
variable {C : Cx} {A : Around} {env : Env} {ρ : Rho} {σ : Store} {X : XP}

theorem EP.pure {s : Shared} {Q : V → Store → Prop} {v : Value} {x : V} (S : St C σ s) (q : Q x σ) (r : VR s.heap v x) : EP C σ s.heap Q v s :=
  ⟨x, σ, q, r, S, .refl ..⟩
theorem EP.pureT {s : Shared} {Q : V → Store → Prop} {v : Value} {x : V} {t : Nat} (S : St C σ s) (q : Q x σ) (r : VR s.heap v x) : EP C σ s.heap Q v { s with toks := t } :=
  ⟨x, σ, q, r, S.toks t, .refl ..⟩

/- constants -/
theorem Ev.cint {i : Int} {k : Nat} {pos : Pos} {Q : V → Store → Prop} (h : Q (.int i) σ) : Ev C A env (.Constant (.int i) k pos) ρ σ Q X :=
  fun _ S _ => wpAny_Constant_int (EP.pureT S h (.int _ _))
theorem Ev.cstr {i : Str} {k : Nat} {pos : Pos} {Q : V → Store → Prop} (h : Q (.str i) σ) : Ev C A env (.Constant (.str i) k pos) ρ σ Q X :=
  fun _ S _ => wpAny_Constant_str (EP.pureT S h (.str _ _))
theorem Ev.cbool {i : Bool} {k : Nat} {pos : Pos} {Q : V → Store → Prop} (h : Q (.bool i) σ) : Ev C A env (.Constant (.bool i) k pos) ρ σ Q X :=
  fun _ S _ => wpAny_Constant_bool (EP.pure S h (.bool _))
theorem Ev.cnone {k : Nat} {pos : Pos} {Q : V → Store → Prop} (h : Q .none σ) : Ev C A env (.Constant .none k pos) ρ σ Q X :=
  fun _ S _ => wpAny_Constant_none (EP.pure S h .none)

/- names -/
theorem Ev.loc {x : Str} {pos : Pos} {v : V} {Q : V → Store → Prop} (hk : env.kindOf x = some .local) (hv : ρ.get x = some v) (h : Q v σ)
    (hd : (x == ("__debug__" : Str)) = false) : Ev C A env (.Name x pos) ρ σ Q X := by
  intro s S F
  obtain ⟨m, hm, f⟩ := F.loc
  obtain ⟨u, hu, r⟩ := f x v hk hv
  exact wpAny_Name (wpAny_loadName_local F.fn hk hm hu (EP.pure S h r)) hd
theorem Ev.cel {x : Str} {pos : Pos} {v : V} {c : Addr} {Q : V → Store → Prop} (hk : env.kindOf x = some .cell) (hc : env.cells.lookup x = some c) (hv : ρ.get x = some v) (h : Q v σ)
    (hd : (x == ("__debug__" : Str)) = false) : Ev C A env (.Name x pos) ρ σ Q X := by
  intro s S F
  obtain ⟨ov, a, b⟩ := F.cell x c hc
  obtain ⟨u, rfl, r⟩ := b v hv
  exact wpAny_Name (wpAny_loadName_cell F.fn hk hc a (EP.pure S h r)) hd
/- compare -/
theorem Ev.cmp {l r : Expr} {op : CmpOp} {pos : Pos} {Q : V → Store → Prop}
    (h : Ev C A env l ρ σ (fun x σ1 => Ev C A env r ρ σ1 (fun y σ2 => CmpWP C A op x y σ2 Q X) X) X) (hm : behindInMarks op r = false := by kernel_rfl) : Ev C A env (.Compare l [op] [r] pos) ρ σ Q X := by
  intro s S F
  refine wpAny_Compare1 (wpAny_mono (h s S F) ?_ fun _ _ z => z) hm
  rintro a s1 ⟨x, σ1, h1, r1, S1, e1⟩
  refine wpAny_mono (h1 s1 S1 (F.evo e1)) ?_ fun _ _ z => z
  rintro b s2 ⟨y, σ2, h2, r2, S2, e2⟩
  exact wpAny_mono (h2 s2 a b S2 (r1.mono e2.tup) r2) (fun _ _ z => (z.after e2).after e1) fun _ _ z => z

theorem Ev.un {e : Expr} {op : UnaryOp} {pos : Pos} {Q : V → Store → Prop} (h : Ev C A env e ρ σ (fun x σ1 => UnWP C A op x σ1 Q X) X) : Ev C A env (.UnaryOp op e pos) ρ σ Q X := by
  intro s S F
  refine wpAny_UnaryOp (wpAny_mono (h s S F) ?_ fun _ _ z => z)
  rintro a s1 ⟨x, σ1, h1, r1, S1, e1⟩
  exact wpAny_mono (h1 s1 a S1 r1) (fun _ _ z => z.after e1) fun _ _ z => z

/-- a test's end -/
def TP (C : Cx) (σ : Store) (h : Heap) (Q : Bool → Store → Prop) (b : Bool) (s' : Shared) : Prop := ∃ σ', Q b σ' ∧ St C σ' s' ∧ Evo σ h σ' s'.heap
theorem TP.after {σ1 : Store} {h h1 : Heap} {Q : Bool → Store → Prop} {v : Bool} {s' : Shared} (x : TP C σ1 h1 Q v s') (k : Evo σ h σ1 h1) : TP C σ h Q v s' :=
  let ⟨a, b, c, d⟩ := x; ⟨a, b, c, k.trans d⟩
theorem TP.pure {s : Shared} {Q : Bool → Store → Prop} {v : Bool} (S : St C σ s) (q : Q v σ) : TP C σ s.heap Q v s := ⟨σ, q, S, .refl ..⟩

theorem Tst.cmp {l r : Expr} {op : CmpOp} {pos : Pos} {Q : Bool → Store → Prop}
    (h : Ev C A env l ρ σ (fun x σ1 => Ev C A env r ρ σ1 (fun y σ2 => CmpWP C A op x y σ2 (fun c σ3 => TruWP C A c σ3 Q X) X) X) X) (hm : behindInMarks op r = false := by kernel_rfl) :
    Tst C A env (.Compare l [op] [r] pos) ρ σ Q X := by
  intro s S F
  refine wpAny_isTrue_Compare1 (wpAny_mono (h s S F) ?_ fun _ _ z => z) hm
  rintro a s1 ⟨x, σ1, h1, r1, S1, e1⟩
  refine wpAny_mono (h1 s1 S1 (F.evo e1)) ?_ fun _ _ z => z
  rintro b s2 ⟨y, σ2, h2, r2, S2, e2⟩
  refine wpAny_mono (h2 s2 a b S2 (r1.mono e2.tup) r2) ?_ fun _ _ z => z
  rintro c s3 ⟨z, σ3, h3, r3, S3, e3⟩
  exact wpAny_mono (h3 s3 c S3 r3) (fun _ _ z => TP.after z ((e1.trans e2).trans e3)) fun _ _ z => z

theorem Tst.not {e : Expr} {pos : Pos} {Q : Bool → Store → Prop} (h : Tst C A env e ρ σ (fun b σ' => Q (!b) σ') X) : Tst C A env (.UnaryOp .Not e pos) ρ σ Q X :=
  fun s S F => wpAny_isTrue_Not (h s S F)

/-- a test by its value -/
theorem Tst.val {e : Expr} {Q : Bool → Store → Prop} (h : Ev C A env e ρ σ (fun x σ1 => TruWP C A x σ1 Q X) X)
    (he : isTrue e env (eval e env) = (do let v ← eval e env; standAt e.pos; holding [v] (truthy v)) := by kernel_rfl) : Tst C A env e ρ σ Q X := by
  intro s S F
  refine wpAny_isTrue_value (wpAny_mono (h s S F) ?_ fun _ _ z => z) he
  rintro c s3 ⟨z, σ3, h3, r3, S3, e3⟩
  exact wpAny_mono (h3 s3 c S3 r3) (fun _ _ z => TP.after z e3) fun _ _ z => z

def AllT (C : Cx) (A : Around) (env : Env) (op : BoolOp) (es : List Expr) (ρ : Rho) (σ : Store) (Q : Bool → Store → Prop) (X : XP) : Prop :=
  ∀ s, St C σ s → Fm C σ s.heap env ρ → wpAny C.M A (allTrue op es env) (TP C σ s.heap Q) X s
theorem Tst.boolop {op : BoolOp} {es : List Expr} {pos : Pos} {Q : Bool → Store → Prop} (h : AllT C A env op es ρ σ Q X) : Tst C A env (.BoolOp op es pos) ρ σ Q X :=
  fun s S F => wpAny_isTrue_BoolOp (h s S F)
theorem AllT.and_nil {Q : Bool → Store → Prop} (h : Q true σ) : AllT C A env .And [] ρ σ Q X := fun s S _ => wpAny_allTrue_And_nil (TP.pure S h)
theorem AllT.or_nil {Q : Bool → Store → Prop} (h : Q false σ) : AllT C A env .Or [] ρ σ Q X := fun s S _ => wpAny_allTrue_Or_nil (TP.pure S h)
theorem AllT.and_cons {e : Expr} {es : List Expr} {Q : Bool → Store → Prop} (h : Tst C A env e ρ σ (fun b σ1 => if b then AllT C A env .And es ρ σ1 Q X else Q false σ1) X) : AllT C A env .And (e :: es) ρ σ Q X := by
  intro s S F
  refine wpAny_allTrue_And_cons (wpAny_mono (h s S F) ?_ fun _ _ z => z)
  rintro b s1 ⟨σ1, h1, S1, e1⟩
  cases b with
  | true => exact wpAny_mono (h1 s1 S1 (F.evo e1)) (fun _ _ z => TP.after z e1) fun _ _ z => z
  | false => exact ⟨σ1, h1, S1, e1⟩
theorem AllT.or_cons {e : Expr} {es : List Expr} {Q : Bool → Store → Prop} (h : Tst C A env e ρ σ (fun b σ1 => if b then Q true σ1 else AllT C A env .Or es ρ σ1 Q X) X) : AllT C A env .Or (e :: es) ρ σ Q X := by
  intro s S F
  refine wpAny_allTrue_Or_cons (wpAny_mono (h s S F) ?_ fun _ _ z => z)
  rintro b s1 ⟨σ1, h1, S1, e1⟩
  cases b with
  | false => exact wpAny_mono (h1 s1 S1 (F.evo e1)) (fun _ _ z => TP.after z e1) fun _ _ z => z
  | true => exact ⟨σ1, h1, S1, e1⟩

/- and, or as values -/
def BoolE (C : Cx) (A : Around) (env : Env) (pos : Pos) (op : BoolOp) (es : List Expr) (ρ : Rho) (σ : Store) (Q : V → Store → Prop) (X : XP) : Prop :=
  ∀ s, St C σ s → Fm C σ s.heap env ρ → wpAny C.M A (boolOp pos op (evalEach es env)) (EP C σ s.heap Q) X s
theorem Ev.boolop {op : BoolOp} {es : List Expr} {pos : Pos} {Q : V → Store → Prop} (h : BoolE C A env pos op es ρ σ Q X) : Ev C A env (.BoolOp op es pos) ρ σ Q X :=
  fun s S F => h s S F
theorem BoolE.one {op : BoolOp} {e : Expr} {pos : Pos} {Q : V → Store → Prop} (h : Ev C A env e ρ σ Q X) : BoolE C A env pos op [e] ρ σ Q X :=
  fun s S F => h s S F
theorem BoolE.and {e e' : Expr} {es : List Expr} {pos : Pos} {Q : V → Store → Prop}
    (h : Ev C A env e ρ σ (fun x σ1 => TruWP C A x σ1 (fun b σ2 => if b then BoolE C A env pos .And (e' :: es) ρ σ2 Q X else Q x σ2) X) X) : BoolE C A env pos .And (e :: e' :: es) ρ σ Q X := by
  intro s S F
  show wpAny C.M A (do
    let v ← eval e env
    standAt pos
    let t ← holding [v] (truthy v)
    match BoolOp.And, t with
    | .And, false | .Or, true => pure v
    | _, _ => boolOp pos .And (evalEach (e' :: es) env)) _ _ s
  refine wpAny_bind (wpAny_mono (h s S F) ?_ fun _ _ z => z)
  rintro v s1 ⟨x, σ1, h1, r1, S1, e1⟩
  refine wpAny_bind (wpAny_standAt (wpAny_bind (wpAny_holding (wpAny_mono (h1 s1 v S1 r1) ?_ fun _ _ z => z))))
  rintro t s2 ⟨σ2, h2, S2, e2⟩
  cases t with
  | true => exact wpAny_mono (h2 s2 S2 ((F.evo e1).evo e2)) (fun _ _ z => (z.after e2).after e1) fun _ _ z => z
  | false => exact wpAny_pure ⟨x, σ2, h2, r1.mono e2.tup, S2, e1.trans e2⟩
/- chains of two -/
theorem Ev.chain {l r1 r2 : Expr} {op1 op2 : CmpOp} {pos : Pos} {Q : V → Store → Prop}
    (h : Ev C A env l ρ σ (fun x σ1 => Ev C A env r1 ρ σ1 (fun y σ2 => CmpWP C A op1 x y σ2 (fun c σ3 => TruWP C A c σ3 (fun b σ4 =>
      if b then Ev C A env r2 ρ σ4 (fun z σ5 => CmpWP C A op2 y z σ5 Q X) X else Q c σ4) X) X) X) X)
    (hm : lastMarks [op1, op2] [r1, r2] = false := by kernel_rfl) : Ev C A env (.Compare l [op1, op2] [r1, r2] pos) ρ σ Q X := by
  intro s S F
  refine PyProof.Rows.Compare_chain (wpAny_mono (h s S F) ?_ fun _ _ z => z) hm
  rintro a s1 ⟨x, σ1, h1, v1, S1, e1⟩
  refine PyProof.Rows.chain_link (wpAny_mono (h1 s1 S1 (F.evo e1)) ?_ fun _ _ z => z)
  rintro b s2 ⟨y, σ2, h2, v2, S2, e2⟩
  refine wpAny_mono (h2 s2 a b S2 (v1.mono e2.tup) v2) ?_ fun _ _ z => z
  rintro c s3 ⟨z, σ3, h3, v3, S3, e3⟩
  refine wpAny_mono (h3 s3 c S3 v3) ?_ fun _ _ z => z
  rintro t s4 ⟨σ4, h4, S4, e4⟩
  have e14 := ((e1.trans e2).trans e3).trans e4
  cases t with
  | false => exact ⟨z, σ4, h4, v3.mono e4.tup, S4, e14⟩
  | true =>
    refine PyProof.Rows.chain_last (wpAny_mono (h4 s4 S4 (F.evo e14)) ?_ fun _ _ z => z)
    rintro d s5 ⟨z', σ5, h5, v5, S5, e5⟩
    exact wpAny_mono (h5 s5 b d S5 (((v2.mono e3.tup).mono e4.tup).mono e5.tup) v5) (fun _ _ z => z.after (e14.trans e5)) fun _ _ z => z
theorem Tst.chain {l r1 r2 : Expr} {op1 op2 : CmpOp} {pos : Pos} {Q : Bool → Store → Prop}
    (h : Ev C A env l ρ σ (fun x σ1 => Ev C A env r1 ρ σ1 (fun y σ2 => CmpWP C A op1 x y σ2 (fun c σ3 => TruWP C A c σ3 (fun b σ4 =>
      if b then Ev C A env r2 ρ σ4 (fun z σ5 => CmpWP C A op2 y z σ5 (fun c σ6 => TruWP C A c σ6 Q X) X) X else Q false σ4) X) X) X) X)
    (hm : lastMarks [op1, op2] [r1, r2] = false := by kernel_rfl) : Tst C A env (.Compare l [op1, op2] [r1, r2] pos) ρ σ Q X := by
  intro s S F
  refine PyProof.Rows.isTrue_chain (wpAny_mono (h s S F) ?_ fun _ _ z => z) hm
  rintro a s1 ⟨x, σ1, h1, v1, S1, e1⟩
  refine PyProof.Rows.test_link (wpAny_mono (h1 s1 S1 (F.evo e1)) ?_ fun _ _ z => z)
  rintro b s2 ⟨y, σ2, h2, v2, S2, e2⟩
  refine wpAny_mono (h2 s2 a b S2 (v1.mono e2.tup) v2) ?_ fun _ _ z => z
  rintro c s3 ⟨z, σ3, h3, v3, S3, e3⟩
  refine wpAny_mono (h3 s3 c S3 v3) ?_ fun _ _ z => z
  rintro t s4 ⟨σ4, h4, S4, e4⟩
  have e14 := ((e1.trans e2).trans e3).trans e4
  cases t with
  | false => exact ⟨σ4, h4, S4, e14⟩
  | true =>
    refine PyProof.Rows.test_last (wpAny_mono (h4 s4 S4 (F.evo e14)) ?_ fun _ _ z => z)
    rintro d s5 ⟨z', σ5, h5, v5, S5, e5⟩
    refine wpAny_mono (h5 s5 b d S5 (((v2.mono e3.tup).mono e4.tup).mono e5.tup) v5) ?_ fun _ _ z => z
    rintro f s6 ⟨z'', σ6, h6, v6, S6, e6⟩
    exact wpAny_mono (h6 s6 f S6 v6) (fun _ _ z => TP.after z ((e14.trans e5).trans e6)) fun _ _ z => z

/- ints -/
theorem BinWP.add_int {a b : Int} {Q : V → Store → Prop} (h : Q (.int (a + b)) σ) : BinWP C A .Add (.int a) (.int b) σ Q X := by
  rintro s _ _ S ⟨⟩ ⟨⟩; exact PySem.P.add_int (EP.pureT S h (.int _ _))
theorem BinWP.mul_int {a b : Int} {Q : V → Store → Prop} (h : Q (.int (a * b)) σ) (hm : IntMulOk a b) : BinWP C A .Mult (.int a) (.int b) σ Q X := by
  rintro s _ _ S ⟨⟩ ⟨⟩; exact PySem.P.mul_int (EP.pureT S h (.int _ _)) hm
theorem BinWP.fdiv_int {a b : Int} {Q : V → Store → Prop} (hb : b ≠ 0) (hs : b.natAbs < 1073741824) (h : Q (.int (a.fdiv b)) σ) : BinWP C A .FloorDiv (.int a) (.int b) σ Q X := by
  rintro s _ _ S ⟨⟩ ⟨⟩; exact PyProof.Rows.floordiv_int hb (EP.pureT S h (.int _ _)) (.inl (PyProof.noPylong_small hs))
theorem BinWP.fmod_int {a b : Int} {Q : V → Store → Prop} (hb : b ≠ 0) (h : Q (.int (a.fmod b)) σ) : BinWP C A .Mod (.int a) (.int b) σ Q X := by
  rintro s _ _ S ⟨⟩ ⟨⟩; exact PyProof.Rows.mod_int' hb (EP.pureT S h (.int _ _))
theorem CmpWP.lt_int {a b : Int} {Q : V → Store → Prop} (h : Q (.bool (decide (a < b))) σ) : CmpWP C A .Lt (.int a) (.int b) σ Q X := by
  rintro s _ _ S ⟨⟩ ⟨⟩; exact PySem.P.lt_int (EP.pure S h (.bool _))
theorem CmpWP.le_int {a b : Int} {Q : V → Store → Prop} (h : Q (.bool (decide (a ≤ b))) σ) : CmpWP C A .LtE (.int a) (.int b) σ Q X := by
  rintro s _ _ S ⟨⟩ ⟨⟩; exact PySem.P.le_int (EP.pure S h (.bool _))
theorem CmpWP.ge_int {a b : Int} {Q : V → Store → Prop} (h : Q (.bool (decide (b ≤ a))) σ) : CmpWP C A .GtE (.int a) (.int b) σ Q X := by
  rintro s _ _ S ⟨⟩ ⟨⟩; exact PySem.P.ge_int (EP.pure S h (.bool _))
theorem CmpWP.eq_int {a b : Int} {Q : V → Store → Prop} (h : Q (.bool (a == b)) σ) : CmpWP C A .Eq (.int a) (.int b) σ Q X := by
  rintro s _ _ S ⟨⟩ ⟨⟩; exact PySem.P.eq_int (EP.pure S h (.bool _))
theorem CmpWP.ne_int {a b : Int} {Q : V → Store → Prop} (h : Q (.bool (a != b)) σ) : CmpWP C A .NotEq (.int a) (.int b) σ Q X := by
  rintro s _ _ S ⟨⟩ ⟨⟩; exact PySem.P.ne_int (EP.pure S h (.bool _))
/- strs -/
theorem BinWP.add_str {a b : Str} {Q : V → Store → Prop} (h : Q (.str (a ++ b)) σ) (hs : a.length + b.length ≤ sizeLine) : BinWP C A .Add (.str a) (.str b) σ Q X := by
  rintro s _ _ S ⟨⟩ ⟨⟩; exact PyProof.Rows.add_str (fun _ _ => EP.pureT S h (.str _ _)) hs
theorem CmpWP.eq_str {a b : Str} {Q : V → Store → Prop} (h : Q (.bool (a == b)) σ) : CmpWP C A .Eq (.str a) (.str b) σ Q X := by
  rintro s _ _ S ⟨⟩ ⟨⟩; exact PyProof.Rows.eq_str (EP.pure S h (.bool _))
/- truth -/
theorem TruWP.bool {b : Bool} {Q : Bool → Store → Prop} (h : Q b σ) : TruWP C A (.bool b) σ Q X := by
  rintro s _ S ⟨⟩; exact wpAny_truthy_bool (TP.pure S h)
end

end Mine

set_option autoImplicit false
set_option linter.unusedVariables false
namespace Mine
open PySem PySem.W

section
variable {C : Cx} {A : Around} {env : Env} {ρ : Rho} {σ : Store} {X : XP} {s : Shared}

theorem tupKeep_sameBut {h h' : Heap} {a : Addr} (hs : Heap.SameBut a h h') (hn : ∀ o, h.get? a = some o → ¬ Imm o) : TupKeep h h' := fun b o i e => by
  by_cases q : b = a
  · subst q; exact absurd i (hn _ e)
  · exact (hs.2 b q).trans e
theorem St.fresh (S : St C σ s) : σ s.heap.objs.size = none := by
  cases q : σ s.heap.objs.size with
  | none => rfl
  | some o =>
    obtain ⟨x, hx, _⟩ := (S.rep _ _ q).isSome
    exact absurd (Heap.lt_size hx) (Nat.lt_irrefl _)

theorem get?_fresh (h : Heap) : h.get? h.objs.size = none := by
  cases q : h.get? h.objs.size with
  | none => rfl
  | some o => exact absurd (Heap.lt_size q) (Nat.lt_irrefl _)

theorem Evo.ext {h h' : Heap} (k : ∀ b o, h.get? b = some o → h'.get? b = some o) : Evo σ h σ h' :=
  ⟨fun b o e _ => .inl (k b o e), fun b o e => .inl ⟨o, e⟩, fun b o e => ⟨o, e⟩, fun a o i e => k _ _ e⟩
theorem St.ext {h' : Heap} {t : Nat} (S : St C σ s) (k : ∀ b o, s.heap.get? b = some o → h'.get? b = some o) : St C σ { s with heap := h', toks := t } :=
  ⟨fun b o e => k _ _ (S.base b o e), fun a o e => (S.rep a o e).at (fun x hx => k _ _ hx) fun _ _ _ e => k _ _ e, S.above, S.gens, S.os⟩

theorem push_size (h : Heap) (x : Obj) : (h.push x).objs.size = h.objs.size + 1 := by
  obtain ⟨o, l⟩ := h; simp [Heap.push]

theorem St.baseFresh {a : Addr} (S : St C σ s) (h : C.n₀ ≤ a) : C.h₀.get? a = none := by
  cases q : C.h₀.get? a with
  | none => rfl
  | some o => exact absurd (C.low _ _ q) (Nat.not_lt.mpr h)
theorem St.new {x : Obj} {o : O} {t : Nat} (S : St C σ s) (r : Rep C (s.heap.push x) s.heap.objs.size o) :
    St C (σ.upd s.heap.objs.size o) { s with heap := s.heap.push x, toks := t } ∧ Evo σ s.heap (σ.upd s.heap.objs.size o) (s.heap.push x) := by
  have k : ∀ b y, s.heap.get? b = some y → (s.heap.push x).get? b = some y := fun b y e => Heap.get?_push_of_some _ e
  have S' := S.ext (t := t) k
  refine ⟨⟨S'.base, fun b y e => ?_, fun b y e => ?_, S'.gens, S'.os⟩, fun b y e n => .inl (k b y e), fun b y e => ?_, fun b y e => ?_, fun a o i e => k _ _ e⟩
  · by_cases q : b = s.heap.objs.size
    · subst q; rw [Store.upd_self] at e; cases e; exact r
    · rw [Store.upd_ne _ _ q] at e; exact S'.rep b y e
  · by_cases q : b = s.heap.objs.size
    · subst q; exact ⟨S.baseFresh S.size, .inl S.size⟩
    · rw [Store.upd_ne _ _ q] at e; exact S.above b y e
  · by_cases q : b = s.heap.objs.size
    · subst q; exact .inr (get?_fresh _)
    · rw [Store.upd_ne _ _ q] at e; exact .inl ⟨_, e⟩
  · by_cases q : b = s.heap.objs.size
    · subst q; exact ⟨_, Store.upd_self ..⟩
    · exact ⟨y, by rw [Store.upd_ne _ _ q]; exact e⟩

theorem St.push {x : Obj} {t : Nat} (S : St C σ s) : St C σ { s with heap := s.heap.push x, toks := t } :=
  S.ext (fun b y e => Heap.get?_push_of_some _ e)
theorem Evo.push {h : Heap} {x : Obj} : Evo σ h σ (h.push x) := .ext fun b y e => Heap.get?_push_of_some _ e

/- argument lists, displays -/
def AP (C : Cx) (σ : Store) (h : Heap) (Q : List V → Store → Prop) (vs : List Value) (s' : Shared) : Prop :=
  ∃ xs σ', Q xs σ' ∧ VRs s'.heap vs xs ∧ St C σ' s' ∧ Evo σ h σ' s'.heap
def Ags (C : Cx) (A : Around) (env : Env) (pos : Pos) (es : List Expr) (ρ : Rho) (σ : Store) (Q : List V → Store → Prop) (X : XP) : Prop :=
  ∀ s, St C σ s → Fm C σ s.heap env ρ → wpAny C.M A (spliced (backTo pos (starEach es env))) (AP C σ s.heap Q) X s
theorem Ags.nil {pos : Pos} {Q : List V → Store → Prop} (h : Q [] σ) : Ags C A env pos [] ρ σ Q X :=
  fun s S F => wpAny_items_nil ⟨[], σ, h, .nil, S, .refl ..⟩
theorem Ags.cons {pos : Pos} {e : Expr} {es : List Expr} {Q : List V → Store → Prop}
    (h : Ev C A env e ρ σ (fun x σ1 => Ags C A env pos es ρ σ1 (fun xs σ2 => Q (x :: xs) σ2) X) X)
    (he : starEach (e :: es) env = (false, eval e env) :: starEach es env := by kernel_rfl) : Ags C A env pos (e :: es) ρ σ Q X := by
  intro s S F
  refine wpAny_items_cons (wpAny_mono (h s S F) ?_ fun _ _ z => z) he
  rintro v s1 ⟨x, σ1, h1, r1, S1, e1⟩
  refine wpAny_mono (h1 s1 S1 (F.evo e1)) ?_ fun _ _ z => z
  rintro vs s2 ⟨xs, σ2, h2, r2, S2, e2⟩
  exact ⟨x :: xs, σ2, h2, .cons (r1.mono e2.tup) r2, S2, e1.trans e2⟩

theorem VRs.push {h : Heap} {x : Obj} {vs : List Value} {xs : List V} (r : VRs h vs xs) : VRs (h.push x) vs xs := r.mono fun _ _ _ e => Heap.get?_push_of_some _ e

theorem Ev.tuple {es : List Expr} {k : Nat} {pos : Pos} {Q : V → Store → Prop} (h : Ags C A env pos es ρ σ (fun xs σ1 => xs.length ≤ sizeLine ∧ Q (.tup xs) σ1) X) :
    Ev C A env (.Tuple es k pos) ρ σ Q X := by
  intro s S F
  refine wpAny_Tuple (wpAny_mono (h s S F) ?_ fun _ _ z => z)
  rintro vs s1 ⟨xs, σ1, ⟨hz, q⟩, r1, S1, e1⟩
  refine ⟨by rw [r1.length]; exact hz, .tup xs, σ1, q, .tup (n := 0) (Heap.get?_push_size _ rfl) (by simpa using r1.push), S1.push, e1.trans .push⟩

theorem rep_list_push {h : Heap} {vs : List Value} {xs : List V} (r : VRs h vs xs) : Rep C (h.push { cls := .type "list", data := .seq vs.toArray }) h.objs.size (.list xs) :=
  ⟨vs.toArray, ⟨0, Heap.get?_push_size _ rfl⟩, by simpa using r.push⟩

theorem Ev.list {es : List Expr} {pos : Pos} {Q : V → Store → Prop} (h : Ags C A env pos es ρ σ (fun xs σ1 => xs.length ≤ sizeLine ∧ ∀ a, σ1 a = none → Q (.ref a) (σ1.upd a (.list xs))) X) :
    Ev C A env (.List es pos) ρ σ Q X := by
  intro s S F
  refine wpAny_List (wpAny_mono (h s S F) ?_ fun _ _ z => z)
  rintro vs s1 ⟨xs, σ1, ⟨hz, q⟩, r1, S1, e1⟩
  obtain ⟨S2, e2⟩ := S1.new (t := s1.toks) (rep_list_push r1)
  exact ⟨by rw [r1.length]; exact hz, .ref _, _, q _ S1.fresh, .ref _, S2, e1.trans e2⟩

/- statements -/
inductive FV where
  | next | brk | cont | ret (v : V)
inductive FR (h : Heap) : Flow → FV → Prop where
  | next : FR h .next .next
  | brk : FR h .brk .brk
  | cont : FR h .cont .cont
  | ret {v : Value} {x : V} : VR h v x → FR h (.ret v) (.ret x)

def Own (env : Env) (b : Addr) : Prop := b = env.locals ∨ ∃ x, env.cells.lookup x = some b
structure EvoF (env : Env) (σ : Store) (h : Heap) (σ' : Store) (h' : Heap) : Prop where
  keep : ∀ b o, h.get? b = some o → σ b = none → ¬ Own env b → Kept h' b o
  dom : ∀ b o, σ' b = some o → (∃ o', σ b = some o') ∨ h.get? b = none
  mono : ∀ b o, σ b = some o → ∃ o', σ' b = some o'
  tup : TupKeep h h'
  there : ∀ b o, h.get? b = some o → Own env b → ∃ o', h'.get? b = some o'
theorem Evo.evoF {σ' : Store} {h h' : Heap} (x : Evo σ h σ' h') (hown : ∀ b, Own env b → σ b = none) : EvoF env σ h σ' h' :=
  ⟨fun b o e n _ => x.keep b o e n, x.dom, x.mono, x.tup, fun b o e w => (x.keep b o e (hown b w)).got⟩
theorem EvoF.refl (h : Heap) : EvoF env σ h σ h := ⟨fun _ _ e _ _ => .inl e, fun _ _ e => .inl ⟨_, e⟩, fun _ _ e => ⟨_, e⟩, .refl _, fun _ o e _ => ⟨o, e⟩⟩
theorem EvoF.trans {σ1 σ2 σ3 : Store} {h1 h2 h3 : Heap} (x : EvoF env σ1 h1 σ2 h2) (y : EvoF env σ2 h2 σ3 h3) : EvoF env σ1 h1 σ3 h3 := by
  refine ⟨fun b o e n w => ?_, fun b o e => ?_, fun b o e => ?_, x.tup.trans y.tup, fun b o e w => ?_⟩
  · refine (x.keep b o e n w).trans fun o' e' => y.keep b o' e' ?_ w
    cases q : σ2 b with
    | none => rfl
    | some o2 =>
      rcases x.dom b o2 q with ⟨o', e'⟩ | e'
      · rw [n] at e'; cases e'
      · rw [e] at e'; cases e'
  · rcases y.dom b o e with ⟨o', e'⟩ | e'
    · exact x.dom b o' e'
    · cases q : h1.get? b with
      | none => exact .inr rfl
      | some o1 =>
        left
        cases q' : σ1 b with
        | some o' => exact ⟨o', rfl⟩
        | none =>
          exfalso
          by_cases w : Own env b
          · obtain ⟨o', z⟩ := x.there b o1 q w
            rw [z] at e'; cases e'
          · obtain ⟨o', z⟩ := (x.keep b o1 q q' w).got
            rw [z] at e'; cases e'
  · obtain ⟨o', e'⟩ := x.mono b o e
    exact y.mono b o' e'
  · obtain ⟨o', z⟩ := x.there b o e w
    exact y.there b o' z w

theorem Fm.own {h : Heap} (F : Fm C σ h env ρ) : ∀ b, Own env b → σ b = none := by
  rintro b (rfl | ⟨x, e⟩)
  · exact F.locs
  · exact (F.ncell x b e).1

def SP (C : Cx) (env : Env) (σ : Store) (h : Heap) (Q : FV → Rho → Store → Prop) (f : Flow) (s' : Shared) : Prop :=
  ∃ g ρ' σ', Q g ρ' σ' ∧ FR s'.heap f g ∧ St C σ' s' ∧ Fm C σ' s'.heap env ρ' ∧ EvoF env σ h σ' s'.heap
theorem SP.after {σ1 : Store} {h h1 : Heap} {Q : FV → Rho → Store → Prop} {f : Flow} {s' : Shared} (x : SP C env σ1 h1 Q f s') (k : EvoF env σ h σ1 h1) : SP C env σ h Q f s' :=
  let ⟨a, b, c, d, e, f, g, i⟩ := x; ⟨a, b, c, d, e, f, g, k.trans i⟩
theorem SP.mono {h : Heap} {Q Q' : FV → Rho → Store → Prop} {f : Flow} {s' : Shared} (x : SP C env σ h Q f s') (k : ∀ g ρ σ, Q g ρ σ → Q' g ρ σ) : SP C env σ h Q' f s' :=
  let ⟨a, b, c, d, e⟩ := x; ⟨a, b, c, k _ _ _ d, e⟩

def Ex (C : Cx) (A : Around) (env : Env) (st : Stmt) (ρ : Rho) (σ : Store) (Q : FV → Rho → Store → Prop) (X : XP) : Prop :=
  ∀ s, St C σ s → Fm C σ s.heap env ρ → wpAny C.M A (exec st env) (SP C env σ s.heap Q) X s
def Exs (C : Cx) (A : Around) (env : Env) (st : List Stmt) (ρ : Rho) (σ : Store) (Q : FV → Rho → Store → Prop) (X : XP) : Prop :=
  ∀ s, St C σ s → Fm C σ s.heap env ρ → wpAny C.M A (execs st env) (SP C env σ s.heap Q) X s

theorem Ex.mono {ss : Stmt} {Q Q' : FV → Rho → Store → Prop} (h : Ex C A env ss ρ σ Q X) (k : ∀ g ρ σ, Q g ρ σ → Q' g ρ σ) : Ex C A env ss ρ σ Q' X :=
  fun s S F => wpAny_mono (h s S F) (fun _ _ z => z.mono k) fun _ _ z => z

/-- what goes on behind a statement -/
def Then (C : Cx) (A : Around) (env : Env) (ss : List Stmt) (Q : FV → Rho → Store → Prop) (X : XP) (g : FV) (ρ : Rho) (σ : Store) : Prop :=
  match g with
  | .next => Exs C A env ss ρ σ Q X
  | g => Q g ρ σ
theorem Exs.nil {Q : FV → Rho → Store → Prop} (h : Q .next ρ σ) : Exs C A env [] ρ σ Q X :=
  fun s S F => wpAny_execs_nil ⟨.next, ρ, σ, h, .next, S, F, .refl _⟩
theorem Exs.cons {st : Stmt} {ss : List Stmt} {Q : FV → Rho → Store → Prop} (h : Ex C A env st ρ σ (Then C A env ss Q X) X) : Exs C A env (st :: ss) ρ σ Q X := by
  intro s S F
  refine wpAny_execs_cons (wpAny_mono (h s S F) ?_ fun _ _ z => z)
  rintro f s1 ⟨g, ρ1, σ1, h1, r1, S1, F1, e1⟩
  cases r1 with
  | next => exact wpAny_mono (h1 s1 S1 F1) (fun _ _ z => z.after e1) fun _ _ z => z
  | brk => exact ⟨_, _, _, h1, .brk, S1, F1, e1⟩
  | cont => exact ⟨_, _, _, h1, .cont, S1, F1, e1⟩
  | ret r => exact ⟨_, _, _, h1, .ret r, S1, F1, e1⟩

theorem Ex.ret {e : Expr} {pos : Pos} {Q : FV → Rho → Store → Prop} (h : Ev C A env e ρ σ (fun x σ1 => Q (.ret x) ρ σ1) X) : Ex C A env (.Return (some e) pos) ρ σ Q X := by
  intro s S F
  refine wpAny_Return_some (wpAny_mono (h s S F) ?_ fun _ _ z => z)
  rintro v s1 ⟨x, σ1, h1, r1, S1, e1⟩
  exact ⟨_, _, _, h1, .ret r1, S1, F.evo e1, e1.evoF F.own⟩
theorem Ex.ite {t : Expr} {b1 b2 : List Stmt} {pos : Pos} {Q : FV → Rho → Store → Prop} (h : Tst C A env t ρ σ (fun b σ1 => if b then Exs C A env b1 ρ σ1 Q X else Exs C A env b2 ρ σ1 Q X) X) :
    Ex C A env (.If t b1 b2 pos) ρ σ Q X := by
  intro s S F
  refine wpAny_If (wpAny_mono (h s S F) ?_ fun _ _ z => z)
  rintro b s1 ⟨σ1, h1, S1, e1⟩
  cases b
  · exact wpAny_mono (h1 s1 S1 (F.evo e1)) (fun _ _ z => z.after (e1.evoF F.own)) fun _ _ z => z
  · exact wpAny_mono (h1 s1 S1 (F.evo e1)) (fun _ _ z => z.after (e1.evoF F.own)) fun _ _ z => z

/-- a list that stood at the call -/
def BaseL (C : Cx) (l : Addr) (xs : List V) : Prop := ∃ items, C.h₀.IsList l items ∧ VRs C.h₀ items.toList xs
/-- a list's items: of the store, or of the base -/
def LstAt (C : Cx) (σ : Store) (l : Addr) (xs : List V) : Prop := σ l = some (.list xs) ∨ BaseL C l xs


theorem LstAt.raw {l : Addr} {xs : List V} (h : LstAt C σ l xs) (S : St C σ s) : ∃ items, s.heap.IsList l items ∧ VRs s.heap items.toList xs := by
  rcases h with h | ⟨items, ⟨o, e, r⟩, h2⟩
  · obtain ⟨items, pl, r⟩ := S.rep _ _ h
    exact ⟨items, pl.isList, r⟩
  · exact ⟨items, ⟨o, S.base _ _ e, r⟩, h2.mono fun _ _ _ e => S.base _ _ e⟩

end

end Mine

set_option autoImplicit false
set_option linter.unusedVariables false
namespace Mine
open PySem PySem.W

section
variable {C : Cx} {A : Around} {env : Env} {ρ : Rho} {σ : Store} {X : XP} {s : Shared}

/- assigning -/
def Asg (C : Cx) (A : Around) (env : Env) (t : Expr) (x : V) (ρ : Rho) (σ : Store) (Q : Rho → Store → Prop) (X : XP) : Prop :=
  ∀ s v, St C σ s → Fm C σ s.heap env ρ → VR s.heap v x → wpAny C.M A (assign t env v) (fun _ s' => ∃ ρ' σ', Q ρ' σ' ∧ St C σ' s' ∧ Fm C σ' s'.heap env ρ' ∧ EvoF env σ s.heap σ' s'.heap) X s

theorem Fm.storeLocal {h h' : Heap} {x : Str} {v : Value} {y : V} {m : Str → Option Value} {t : Nat} (S : St C σ s) (F : Fm C σ s.heap env ρ) (hk : env.kindOf x = some .local)
    (hm : s.heap.Ns env.locals m) (f : ∀ x v, env.kindOf x = some .local → ρ.get x = some v → ∃ u, m x = some u ∧ VR s.heap u v)
    (hn : h'.Ns env.locals (fun z => if z = x then some v else m z)) (hs : Heap.SameBut env.locals s.heap h') (r : VR s.heap v y)
    (hc : env.cells.lookup x = none) :
    St C σ { s with heap := h', toks := t } ∧ Fm C σ h' env (ρ.put x y) ∧ EvoF env σ s.heap σ h' := by
  have nt : ∀ o, s.heap.get? env.locals = some o → ¬ Imm o := fun o e => by obtain ⟨o', es, ep, ho, hd, _⟩ := hm; rw [ho] at e; cases e; exact Imm.notDict hd
  have tk := tupKeep_sameBut hs nt
  have ne : ∀ b o, σ b = some o → b ≠ env.locals := fun b o e q => by rw [q, F.locs] at e; cases e
  refine ⟨⟨fun b o e => ?_, fun b o e => ?_, S.above, S.gens, S.os⟩, ⟨F.fn, ⟨_, hn, fun z u hz hu => ?_⟩, F.locs, F.abv, fun z c hz => ?_, F.ncell, F.apart⟩, fun b o e n w => ?_, fun b o e => .inl ⟨o, e⟩, fun b o e => ⟨o, e⟩, tk, fun b o e w => ?_⟩
  · refine (hs.2 b fun q => ?_).trans (S.base b o e)
    subst q; exact absurd (C.low _ _ e) (Nat.not_lt.mpr F.abv)
  · exact (S.rep b o e).at (fun y hy => (hs.2 b (ne b o e)).trans hy) tk
  · rw [Rho.get_put] at hu
    by_cases q : z = x
    · subst q; rw [if_pos rfl] at hu; cases hu; exact ⟨v, by simp, r.mono tk⟩
    · rw [if_neg q] at hu
      obtain ⟨a, b, d⟩ := f z u hz hu
      exact ⟨a, by simp [q, b], d.mono tk⟩
  · obtain ⟨ov, a, b⟩ := F.cell z c hz
    obtain ⟨n1, n2, n3⟩ := F.ncell z c hz
    refine ⟨ov, a.sameBut hs n2, fun u hu => ?_⟩
    rw [Rho.get_put, if_neg (fun q => by subst q; rw [hc] at hz; cases hz)] at hu
    obtain ⟨p, q1, q2⟩ := b u hu
    exact ⟨p, q1, q2.mono tk⟩
  · exact .inl ((hs.2 b fun q => w (.inl q)).trans e)
  · by_cases q : b = env.locals
    · subst q
      obtain ⟨o', _, _, ho, _⟩ := hn
      exact ⟨o', ho⟩
    · exact ⟨o, (hs.2 b q).trans e⟩

theorem Asg.loc {x : Str} {pos : Pos} {y : V} {ρ' : Rho} {Q : Rho → Store → Prop} (hk : env.kindOf x = some .local) (hc : env.cells.lookup x = none) (hp : ρ.put x y = ρ') (h : Q ρ' σ) :
    Asg C A env (.Name x pos) y ρ σ Q X := by
  intro s v S F r
  obtain ⟨m, hm, f⟩ := F.loc
  refine wpAny_assign_Name (wpAny_storeName_local hk hm (fun h' hn hs => ?_) (by rw [F.fn]; rfl))
  obtain ⟨a, b, c⟩ := Fm.storeLocal (h := s.heap) (t := s.toks + 1) S F hk hm f hn hs r hc
  exact ⟨_, _, h, a, hp ▸ b, c⟩

theorem Asg.cel {x : Str} {pos : Pos} {y : V} {c : Addr} {ρ' : Rho} {Q : Rho → Store → Prop} (hk : env.kindOf x = some .cell) (hc : env.cells.lookup x = some c) (hp : ρ.put x y = ρ') (h : Q ρ' σ) :
    Asg C A env (.Name x pos) y ρ σ Q X := by
  intro s v S F r
  obtain ⟨ov, a, b⟩ := F.cell x c hc
  obtain ⟨n1, n2, n3⟩ := F.ncell x c hc
  refine wpAny_assign_Name (wpAny_storeName_cell F.fn hk hc a (fun h' hcl hs => ?_))
  have nt : ∀ o, s.heap.get? c = some o → ¬ Imm o := fun o e => by obtain ⟨o', ho, hd⟩ := a; rw [ho] at e; cases e; exact Imm.notCell hd
  have tk := tupKeep_sameBut hs nt
  have ne : ∀ b o, σ b = some o → b ≠ c := fun b o e q => by rw [q, n1] at e; cases e
  obtain ⟨m, hm, f⟩ := F.loc
  refine ⟨ρ', σ, h, ⟨fun b o e => ?_, fun b o e => ?_, S.above, S.gens, S.os⟩, hp ▸ ⟨F.fn, ⟨m, hm.sameBut hs n2.symm, fun z u hz hu => ?_⟩, F.locs, F.abv, fun z d hz => ?_, F.ncell, F.apart⟩, fun b o e n w => ?_, fun b o e => .inl ⟨o, e⟩, fun b o e => ⟨o, e⟩, tk, fun b o e w => ?_⟩
  · refine (hs.2 b fun q => ?_).trans (S.base b o e)
    subst q; exact absurd (C.low _ _ e) (Nat.not_lt.mpr n3)
  · exact (S.rep b o e).at (fun y hy => (hs.2 b (ne b o e)).trans hy) tk
  · rw [Rho.get_put, if_neg (fun q => by subst q; rw [hk] at hz; cases hz)] at hu
    obtain ⟨a, b, d⟩ := f z u hz hu
    exact ⟨a, b, d.mono tk⟩
  · by_cases q : z = x
    · subst q
      rw [hc] at hz; cases hz
      exact ⟨some v, hcl, fun u hu => by rw [Rho.get_put, if_pos rfl] at hu; cases hu; exact ⟨v, rfl, r.mono tk⟩⟩
    · have dc : d ≠ c := fun e => q (F.apart z x d hz (e ▸ hc))
      obtain ⟨ov', a', b'⟩ := F.cell z d hz
      refine ⟨ov', a'.sameBut hs dc, fun u hu => ?_⟩
      rw [Rho.get_put, if_neg q] at hu
      obtain ⟨p, q1, q2⟩ := b' u hu
      exact ⟨p, q1, q2.mono tk⟩
  · exact .inl ((hs.2 b fun q => w (.inr ⟨x, q ▸ hc⟩)).trans e)
  · by_cases q : b = c
    · subst q
      obtain ⟨o', ho, _⟩ := hcl
      exact ⟨o', ho⟩
    · exact ⟨o, (hs.2 b q).trans e⟩

/-- one target -/
theorem Ex.assign {t value : Expr} {pos : Pos} {Q : FV → Rho → Store → Prop} (h : Ev C A env value ρ σ (fun x σ1 => Asg C A env t x ρ σ1 (fun ρ' σ' => Q .next ρ' σ') X) X)
    (hs : swapsWithSole [t] value pos.line env = pure false := by kernel_rfl) (hw : swappedStores [t] value env = pure none := by kernel_rfl)
    (ht : (assignEach [t] env).map (·.2) = [assign t env] := by kernel_rfl) : Ex C A env (.Assign [t] value pos) ρ σ Q X := by
  intro s S F
  refine wpAny_Assign_stores (wpAny_mono (h s S F) ?_ fun _ _ z => z) hs hw
  rintro v s1 ⟨x, σ1, h1, r1, S1, e1⟩
  rw [ht]
  refine wpAny_mono (h1 s1 v S1 (F.evo e1) r1) ?_ fun _ _ z => z
  rintro _ s2 ⟨ρ', σ', q, S2, F2, e2⟩
  exact ⟨_, _, _, q, .next, S2, F2, (e1.evoF F.own).trans e2⟩

/- tuple targets -/
def AsgO (C : Cx) (A : Around) (env : Env) (ts : List Expr) (xs : List V) (ρ : Rho) (σ : Store) (Q : Rho → Store → Prop) (X : XP) : Prop :=
  ∀ s vs, St C σ s → Fm C σ s.heap env ρ → VRs s.heap vs xs → wpAny C.M A (assignInOrder ((assignEach ts env).map (·.2)) vs) (fun _ s' => ∃ ρ' σ', Q ρ' σ' ∧ St C σ' s' ∧ Fm C σ' s'.heap env ρ' ∧ EvoF env σ s.heap σ' s'.heap) X s
end

end Mine

set_option autoImplicit false
set_option linter.unusedVariables false
namespace Mine
open PySem PySem.W

def FV.val : FV → V
  | .ret v => v
  | _ => .none
def fval : Flow → Value
  | .ret v => v
  | _ => .none
theorem FR.val {h : Heap} {f : Flow} {g : FV} (r : FR h f g) : VR h (fval f) g.val := by
  cases r <;> first | exact .none | assumption

def CallWP (C : Cx) (A : Around) (f : Value) (args : List V) (σ : Store) (Q : V → Store → Prop) (X : XP) : Prop :=
  ∀ s vs, St C σ s → VRs s.heap vs args → wpAny C.M A (call f vs) (EP C σ s.heap Q) X s

section
variable {kindOf : Str → Option NameKind} {h : Heap}
theorem bindL_notin {x : Str} : ∀ (names : List Str) (vals : List Value) (m : Str → Option Value), x ∉ names → bindL kindOf (names.zip vals) m x = m x
  | [], _, _, _ => rfl
  | _ :: _, [], _, _ => rfl
  | n :: names, v :: vals, m, hx => by
    show bindL kindOf (names.zip vals) _ x = m x
    rw [bindL_notin names vals _ fun q => hx (.tail _ q)]
    split
    · exact if_neg fun (q : x = n) => hx (q ▸ .head _)
    · rfl
theorem bindC_notin {x : Str} : ∀ (names : List Str) (vals : List Value) (m : Str → Option Value), x ∉ names → bindC kindOf (names.zip vals) m x = m x
  | [], _, _, _ => rfl
  | _ :: _, [], _, _ => rfl
  | n :: names, v :: vals, m, hx => by
    show bindC kindOf (names.zip vals) _ x = m x
    rw [bindC_notin names vals _ fun q => hx (.tail _ q)]
    split
    · rfl
    · exact if_neg fun (q : x = n) => hx (q ▸ .head _)
theorem bindL_get {x : Str} {y : V} : ∀ (names : List Str) (vals : List Value) (args : List V) (m : Str → Option Value), VRs h vals args → names.Nodup → kindOf x = some .local →
    Rho.get (names.zip args) x = some y → ∃ u, bindL kindOf (names.zip vals) m x = some u ∧ VR h u y
  | [], _, _, _, _, _, _, e => by cases e
  | _ :: _, _, _, _, .nil, _, _, e => by cases e
  | n :: names, v :: vals, a :: args, m, .cons r rs, nd, hk, e => by
    have nd' := List.nodup_cons.mp nd
    show ∃ u, bindL kindOf (names.zip vals) _ x = some u ∧ _
    have e' : (if x = n then some a else Rho.get (names.zip args) x) = some y := e
    by_cases q : x = n
    · subst q
      rw [if_pos rfl] at e'; cases e'
      rw [bindL_notin names vals _ nd'.1, if_pos hk]
      exact ⟨v, if_pos rfl, r⟩
    · rw [if_neg q] at e'
      exact bindL_get names vals args _ rs nd'.2 hk e'
theorem bindC_get {x : Str} {y : V} : ∀ (names : List Str) (vals : List Value) (args : List V) (m : Str → Option Value), VRs h vals args → names.Nodup → kindOf x ≠ some .local →
    Rho.get (names.zip args) x = some y → ∃ u, bindC kindOf (names.zip vals) m x = some u ∧ VR h u y
  | [], _, _, _, _, _, _, e => by cases e
  | _ :: _, _, _, _, .nil, _, _, e => by cases e
  | n :: names, v :: vals, a :: args, m, .cons r rs, nd, hk, e => by
    have nd' := List.nodup_cons.mp nd
    show ∃ u, bindC kindOf (names.zip vals) _ x = some u ∧ _
    have e' : (if x = n then some a else Rho.get (names.zip args) x) = some y := e
    by_cases q : x = n
    · subst q
      rw [if_pos rfl] at e'; cases e'
      rw [bindC_notin names vals _ nd'.1, if_neg hk]
      exact ⟨v, if_pos rfl, r⟩
    · rw [if_neg q] at e'
      exact bindC_get names vals args _ rs nd'.2 hk e'
end

theorem cellsFrom_mem : ∀ (names : List (Str × NameKind)) (n : Nat) (acc : List (Str × Addr)) (x : Str) (c : Addr), (x, c) ∈ cellsFrom n names acc → (x, c) ∈ acc ∨ (x, NameKind.cell) ∈ names
  | [], _, _, _, _, h => .inl h
  | (nm, k) :: r, n, acc, x, c, h => by
    unfold cellsFrom at h
    split at h
    · rename_i hk
      rcases cellsFrom_mem r _ _ x c h with q | q
      · rcases List.mem_cons.mp q with q | q
        · cases q
          right
          rw [← beq_iff_eq.mp hk]
          exact .head _
        · exact .inl q
      · exact .inr (.tail _ q)
    · rcases cellsFrom_mem r _ _ x c h with q | q
      · exact .inl q
      · exact .inr (.tail _ q)

/-- cells of a scope are cells by its table -/
def scopeOk (scope : Scope) : Bool := scope.names.all fun p => p.2 != .cell || scope.names.lookup p.1 == some .cell

section
variable {C : Cx} {A : Around} {env : Env} {ρ : Rho} {σ : Store} {X : XP} {s : Shared}

theorem St.callee {fd : FuncData} {f : Addr} {names : List Str} {vals : List Value} {args : List V} {s₁ : Shared} (S : St C σ s) (r : VRs s.heap vals args) (nd : names.Nodup) (hk : fd.scope.kind = .function) (hsc : scopeOk fd.scope = true)
    (x : InCallC s (callEnvC fd s.heap.objs.size f).locals (bindL (callEnvC fd s.heap.objs.size f).kindOf (names.zip vals) fun _ => none) (callEnvC fd s.heap.objs.size f).cells
        (bindC (callEnvC fd s.heap.objs.size f).kindOf (names.zip vals) fun _ => none) s₁) :
    St C σ s₁ ∧ Fm C σ s₁.heap (callEnvC fd s.heap.objs.size f) (names.zip args) ∧ (∀ b o, s.heap.get? b = some o → s₁.heap.get? b = some o) := by
  obtain ⟨⟨⟨h, tk, rfl⟩, ns, keep, fr⟩, cell, apart, above⟩ := x
  have L : (callEnvC fd s.heap.objs.size f).locals = s.heap.objs.size := rfl
  have e0 : Evo σ s.heap σ h := .ext keep
  have fresh : ∀ b, s.heap.objs.size ≤ b → σ b = none := fun b hb => by
    cases q : σ b with
    | none => rfl
    | some o =>
      obtain ⟨y, hy, _⟩ := (S.rep _ _ q).isSome
      exact absurd (Heap.lt_size hy) (Nat.not_lt.mpr hb)
  have up : ∀ n c, (callEnvC fd s.heap.objs.size f).cells.lookup n = some c → s.heap.objs.size < c := fun n c hc => L ▸ above n c (mem_of_lookup hc)
  refine ⟨S.ext keep, ⟨hk, ⟨_, ns, fun y v hy hv => bindL_get names vals args _ (r.mono e0.tup) nd hy hv⟩, fresh _ (L ▸ Nat.le_refl _), L ▸ S.size, fun y c hc => ⟨_, cell y c hc, fun v hv => ?_⟩, fun y c hc => ?_, fun y z c hy hz => ?_⟩, keep⟩
  · refine bindC_get names vals args _ (r.mono e0.tup) nd ?_ hv
    rcases cellsFrom_mem _ _ _ _ _ (mem_of_lookup hc) with q | q
    · cases q
    · have := List.all_eq_true.mp hsc _ q
      intro z
      have z' : fd.scope.names.lookup y = some .local := z
      simp only [bne_self_eq_false, Bool.false_or, beq_iff_eq] at this
      rw [z'] at this; cases this
  · have := up y c hc
    exact ⟨fresh c (Nat.le_of_lt this), fun q => by rw [q, L] at this; exact Nat.lt_irrefl _ this, Nat.le_trans S.size (Nat.le_of_lt this)⟩
  · exact name_of_addr apart (mem_of_lookup hy) (mem_of_lookup hz)

theorem EP.ret {s₁ : Shared} {fd : FuncData} {f : Addr} {Q : V → Store → Prop} {fl : Flow} {s' : Shared} (S : St C σ s) (keep : ∀ b o, s.heap.get? b = some o → s₁.heap.get? b = some o)
    (hup : ∀ n c, (callEnvC fd s.heap.objs.size f).cells.lookup n = some c → s.heap.objs.size < c)
    (z : SP C (callEnvC fd s.heap.objs.size f) σ s₁.heap (fun g _ σ' => Q g.val σ') fl s') : EP C σ s.heap Q (fval fl) s' := by
  obtain ⟨g, ρ', σ', q, r, S', F', e⟩ := z
  refine ⟨g.val, σ', q, r.val, S', fun b o hb n => ?_, fun b o hb => ?_, e.mono, fun a o i h => e.tup _ _ i (keep _ _ h)⟩
  · refine e.keep b o (keep b o hb) n ?_
    have hlt := Heap.lt_size hb
    rintro (q | ⟨x, hx⟩)
    · rw [q] at hlt; exact Nat.lt_irrefl _ hlt
    · exact absurd (hup x b hx) (Nat.not_lt.mpr (Nat.le_of_lt hlt))
  · rcases e.dom b o hb with h | h
    · exact .inl h
    · right
      cases q : s.heap.get? b with
      | none => rfl
      | some y => rw [keep b y q] at h; cases h

/-- a call of a def that raises nothing -/
theorem CallWP.fn {f : Addr} {o : Obj} {fd : FuncData} {body : List Stmt} {names : List Str} {args : List V} {Q : V → Store → Prop}
    (ho : C.h₀.get? f = some o) (hd : o.data = .func fd) (hlim : C.h₀.NoLimit) (hcd : C.h₀.CodeRec fd.code fd.qualname) (hbody : fd.body = .stmts body)
    (hbind : ∀ vals : List Value, vals.length = args.length → bindArgs fd ⟨vals, []⟩ = pure (names.zip vals)) (hclo : fd.closure = []) (nd : names.Nodup)
    (hkind : ∀ x ∈ names, fd.scope.names.lookup x = some .local ∨ (fd.scope.names.lookup x = some .cell ∧ ∀ L, ((cellsFrom L fd.scope.names []).lookup x).isSome = true))
    (hroom : A.depth < recursionLimit) (hsc : scopeOk fd.scope = true) (hco : fd.scope.isCoroutine = false) (hgen : fd.scope.isGenerator = false) (hk : fd.scope.kind = .function)
    (h : ∀ L, Exs C (A.deeper (callEnvC fd L f)) (callEnvC fd L f) body (names.zip args) σ (fun g _ σ' => Q g.val σ') (fun _ _ => False)) : CallWP C A (.ref f) args σ Q X := by
  intro s vs S r
  have hk' : ∀ b o, C.h₀.get? b = some o → s.heap.get? b = some o := S.base
  refine wpAny_call (codeAny_call_cells (fd := fd) hroom (hk' _ _ ho) hd (hlim.keeps hk') (hcd.keeps hk') hbody (hbind vs r.length) hclo ?_ (fun s₁ x => ?_) hco hgen hk)
  · intro y hy
    rcases hkind y.1 (List.of_mem_zip hy).1 with q | ⟨q, q'⟩
    · exact .inl q
    · exact .inr ⟨q, q' _⟩
  · obtain ⟨S₁, F₁, keep⟩ := S.callee r nd hk hsc x
    refine wpAny_mono (h s.heap.objs.size s₁ S₁ F₁) (fun fl s' z => ?_) (fun _ _ z => z.elim)
    have y := EP.ret S keep (fun n c hc => x.above n c (mem_of_lookup hc)) z
    cases fl <;> exact y
end

end Mine

set_option autoImplicit false
set_option linter.unusedVariables false
namespace Mine
open PySem PySem.W

section
variable {C : Cx} {A : Around} {env : Env} {ρ : Rho} {σ : Store} {X : XP} {s : Shared}

theorem St.K (S : St C σ s) : C.K.In s.heap := fun a o e => S.base _ _ (C.KX a o e)
theorem VR.base {v : Value} {x : V} (r : VR C.h₀ v x) (S : St C σ s) : VR s.heap v x := r.mono fun _ _ _ e => S.base _ _ e

theorem Ev.glob {x : Str} {pos : Pos} {v : Value} {y : V} {Q : V → Store → Prop} (hk : env.kindOf x = some .globalImplicit) (e : nsIn C.K mainGlobals x = some (some v)) (r : VR C.h₀ v y) (h : Q y σ)
    (hg : env.globals = mainGlobals) (hd : (x == ("__debug__" : Str)) = false) : Ev C A env (.Name x pos) ρ σ Q X := by
  intro s S F
  refine Calls.Name_function_global F.fn hk (Calls.loadGlobal_global (mg := C.mg) ?_ (mg_of C.KX C.hg e) (EP.pure S h (r.base S))) hd
  rw [hg]; exact C.hg.keeps S.base
theorem Ev.gblt {x : Str} {pos : Pos} {v : Value} {y : V} {Q : V → Store → Prop} (hk : env.kindOf x = some .globalImplicit) (e : nsIn C.K mainGlobals x = some none) (hv : bootBuiltins x = some v) (r : VR C.h₀ v y) (h : Q y σ)
    (hn : x ≠ "__name__") (hg : env.globals = mainGlobals) (hb : env.builtins = builtinsNs) (hd : (x == ("__debug__" : Str)) = false) : Ev C A env (.Name x pos) ρ σ Q X := by
  intro s S F
  refine Calls.Name_function_global F.fn hk (Calls.loadGlobal_builtin (mg := C.mg) (mb := C.mb) ?_ (mg_none_of C.KX C.hg e) ?_ ((C.blt x hn).trans hv) (EP.pure S h (r.base S))) hd
  · rw [hg]; exact C.hg.keeps S.base
  · rw [hb]; exact C.hb.keeps S.base

/- calls -/
/-- f may be called: its keeper is plain wherever the base stands -/
def Kp (C : Cx) (f : Value) : Prop := ∀ h : Heap, (∀ b o, C.h₀.get? b = some o → h.get? b = some o) → ∃ k, (k = Keeper.frame ∨ k = Keeper.machine ∨ k = Keeper.boundFrame) ∧ Looks C.M h (keeperOf f) k
theorem Kp.ref {f : Value} (e : keepIn C.K f = true) : Kp C f := fun h k => keeps_K e h fun a o q => k _ _ (C.KX a o q)
theorem Kp.blt {i : String} : Kp C (.builtin i) := fun h k => ⟨.machine, .inr (.inl rfl), .now⟩
theorem Kp.typ {i : String} : Kp C (.type i) := fun h k => ⟨.machine, .inr (.inl rfl), .now⟩

theorem evalArgs_sp {M : Model} {E : XP} {f : Value} {Q : Args → Shared → Prop} : ∀ {trees : List (Bool × Sem Value)}, trees.any (·.1) = false → wpAny M A (spliced trees) (fun vs s' => Q ⟨vs, []⟩ s') E s → wpAny M A (evalArgs f true trees []) Q E s
  | [], _, h => by
    unfold evalArgs
    show wpAny M A (spliced [] >>= _) Q E s
    refine wpAny_bind (wpAny_mono h (fun vs s' h' => ?_) fun _ _ x => x)
    refine wpAny_holding ?_
    exact wpAny_bind (wpAny_pure (wpAny_bind (wpAny_pure (wpAny_pure h'))))
  | (false, x) :: rest, _, h => Calls.evalArgs_plain h
  | (true, x) :: rest, e, _ => by simp at e

theorem callWith_mine {pos : Pos} {f : Value} {first : List Value} {fx : List V} {args : List Expr} {Q : V → Store → Prop} (kp : Kp C f) (S : St C σ s) (F : Fm C σ s.heap env ρ) (rf : VRs s.heap first fx)
    (h : Ags C A env pos args ρ σ (fun xs σ1 => CallWP C A f (fx ++ xs) σ1 Q X) X)
    (he : (backTo pos (starEach args env)).any (·.1) = false) :
    wpAny C.M A (callWith pos f first (backTo pos (starEach args env)) []) (EP C σ s.heap Q) X s := by
  refine callWith_of (P := fun h => ∀ b o, C.h₀.get? b = some o → h.get? b = some o) (by rw [he]; rfl) kp ?_
  refine evalArgs_sp he (wpAny_mono (h s S F) ?_ fun _ _ z => z)
  rintro vs s1 ⟨xs, σ1, q, r1, S1, e1⟩
  exact ⟨S1.base, wpAny_mono (q s1 _ S1 ((rf.mono e1.tup).append r1)) (fun _ _ z => z.after e1) fun _ _ z => z⟩

/- attributes of own instances -/
def sget (es : List (Str × V)) (x : Str) : Option V := (es.find? fun p => decide (p.1 = x)).map (·.2)

end

end Mine

set_option autoImplicit false
set_option linter.unusedVariables false
namespace Mine
open PySem PySem.W

/-- str-keyed store -/
def sput : List (Str × V) → Str → V → List (Str × V)
  | [], x, v => [(x, v)]
  | (y, u) :: r, x, v => if x = y then (x, v) :: r else (y, u) :: sput r x v

section
variable {C : Cx} {A : Around} {env : Env} {ρ : Rho} {σ : Store} {X : XP} {s : Shared}

/- a method of an own object -/

end

end Mine

set_option autoImplicit false
set_option linter.unusedVariables false
namespace Mine
open PySem PySem.W

/-- an iterator: `ow` are its own objects, `J k` its state ahead of its k-th item -/
structure Itr (C : Cx) (A : Around) (target : Expr) (it : Value) (ow : Addr → Prop) (J : Nat → Heap → Prop) (ok : Store → Prop) (xs : List V) : Prop where
  frame : ∀ k h h', J k h → TupKeep h h' → (∀ b o, ow b → h.get? b = some o → h'.get? b = some o) → J k h'
  notTup : ∀ k h b o, J k h → ow b → h.get? b = some o → ¬ Imm o
  notD : ∀ k h b o, J k h → ow b → h.get? b = some o → ∀ es n, o.data ≠ .dict es n
  there : ∀ k h b, J k h → ow b → ∃ o, h.get? b = some o
  more : ∀ k σ s x (Q : Option Value → Shared → Prop) (X : XP), St C σ s → ok σ → J k s.heap → xs[k]? = some x → (∀ b, ow b → σ b = none) →
    (∀ v h' tk, VR h' v x → (∀ b o, ¬ ow b → s.heap.get? b = some o → h'.get? b = some o) → (∀ b o, ow b → h'.get? b = some o → ¬ Imm o) →
      (∀ (Q' : Unit → Shared → Prop) (X' : XP), (∀ h'' tk', J (k + 1) h'' → (∀ b o, ¬ ow b → h'.get? b = some o → h''.get? b = some o) → Q' () { s with heap := h'', toks := tk' }) →
        wpAny C.M A (letOwnedTupleGo target it v) Q' X' { s with heap := h', toks := tk }) → Q (some v) { s with heap := h', toks := tk }) → wpAny C.M A (pyNext it) Q X s
  self : ∀ k (s : Shared) (Q : Value → Shared → Prop) (X : XP), J k s.heap → Q it s → wpAny C.M A (pyIter it) Q X s
  done : ∀ k σ s (Q : Option Value → Shared → Prop) (X : XP), St C σ s → ok σ → J k s.heap → xs[k]? = none → (∀ b, ow b → σ b = none) →
    (∀ h' tk, (∀ b o, ¬ ow b → s.heap.get? b = some o → h'.get? b = some o) → Q none { s with heap := h', toks := tk }) → wpAny C.M A (pyNext it) Q X s

section
variable {C : Cx} {A : Around} {env : Env} {ρ : Rho} {σ : Store} {X : XP} {s : Shared}

theorem tk_ow {h h' : Heap} {ow : Addr → Prop} (k : ∀ b o, ¬ ow b → h.get? b = some o → h'.get? b = some o) (nt : ∀ b o, ow b → h.get? b = some o → ¬ Imm o) : TupKeep h h' :=
  fun a o i e => k a _ (fun q => nt a o q e i) e
theorem St.ow {h' : Heap} {t : Nat} {ow : Addr → Prop} (S : St C σ s) (k : ∀ b o, ¬ ow b → s.heap.get? b = some o → h'.get? b = some o) (nt : ∀ b o, ow b → s.heap.get? b = some o → ¬ Imm o)
    (no : ∀ b, ow b → σ b = none) (nb : ∀ b, ow b → C.h₀.get? b = none) : St C σ { s with heap := h', toks := t } :=
  ⟨fun b o e => k b o (fun q => by rw [nb b q] at e; cases e) (S.base b o e), fun a o e => (S.rep a o e).at (fun x hx => k a x (fun q => by rw [no a q] at e; cases e) hx) (tk_ow k nt), S.above, S.gens, S.os⟩
theorem Fm.ow {h h' : Heap} {ow : Addr → Prop} (F : Fm C σ h env ρ) (k : ∀ b o, ¬ ow b → h.get? b = some o → h'.get? b = some o) (nt : ∀ b o, ow b → h.get? b = some o → ¬ Imm o) (no : ∀ b, ow b → ¬ Own env b) : Fm C σ h' env ρ := by
  obtain ⟨f1, ⟨m, hm, f2⟩, f3, f5, f6, f7, f8⟩ := F
  have tk := tk_ow k nt
  obtain ⟨o, es, ep, ho, rest⟩ := hm
  refine ⟨f1, ⟨m, ⟨o, es, ep, k _ _ (fun q => no _ q (.inl rfl)) ho, rest⟩, fun x v hx hv => ?_⟩, f3, f5, fun x c hc => ?_, f7, f8⟩
  · obtain ⟨u, a, b⟩ := f2 x v hx hv
    exact ⟨u, a, b.mono tk⟩
  · obtain ⟨ov, a, b⟩ := f6 x c hc
    refine ⟨ov, isCell_at a fun o e => k _ _ (fun q => no _ q (.inr ⟨x, hc⟩)) e, fun v hv => ?_⟩
    obtain ⟨u, p, q⟩ := b v hv
    exact ⟨u, p, q.mono tk⟩
/-- the turns, item by item -/
def ForL (C : Cx) (A : Around) (env : Env) (target : Expr) (body : List Stmt) (ok : Store → Prop) (Q : FV → Rho → Store → Prop) : List V → Rho → Store → Prop
  | [], ρ, σ => Q .next ρ σ
  | x :: xs, ρ, σ => Asg C A env target x ρ σ (fun ρ1 σ1 => Exs C A env body ρ1 σ1 (fun g ρ2 σ2 => match g with
      | .next | .cont => ok σ2 ∧ ForL C A env target body ok Q xs ρ2 σ2
      | .brk => Q .next ρ2 σ2
      | .ret v => Q (.ret v) ρ2 σ2) (fun _ _ => False)) (fun _ _ => False)

/-- no tuple of its own to let go -/
theorem letGo_plain {target : Expr} {it : Addr} {v : Value} {o : Obj} {T : String} {Q : Unit → Shared → Prop} {E : XP} (e : s.heap.get? it = some o) (hc : o.cls = .type T)
    (hT : ["enumerate", "zip", "dict_itemiterator", "dict_reverseitemiterator", "odict_iterator", "itertools.zip_longest", "itertools.pairwise"].contains T = false) (h : Q () s) : wpAny C.M A (letOwnedTupleGo target (.ref it) v) Q E s := by
  have key : ∀ (v : Value), wpAny C.M A (do
      let (.ref r, .ref a) := ((Value.ref it, v) : Value × Value) | return
      let o ← load r
      match o.cls, o.data with
      | .type n, .fields vs =>
        if ["enumerate", "zip", "dict_itemiterator", "dict_reverseitemiterator", "odict_iterator", "itertools.zip_longest", "itertools.pairwise"].contains n && vs[0]? == some (rawInt a) then
          rule "for.unpacks-the-owned-tuple"
          updateField r 0 .none
      | _, _ => pure ()) Q E s := fun v => by
    cases v <;> try exact wpAny_pure h
    refine wpAny_bind (wpAny_load e ?_)
    rw [hc]
    cases o.data <;> try exact wpAny_pure h
    simp only [hT, Bool.false_and, Bool.false_eq_true, if_false]
    exact wpAny_pure h
  cases target <;> first | exact wpAny_pure h | exact key v

/- lists -/
end

end Mine

set_option autoImplicit false
set_option linter.unusedVariables false
namespace Mine
open PySem PySem.W

section
variable {C : Cx} {A : Around} {env : Env} {ρ : Rho} {σ : Store} {X : XP} {s : Shared}

theorem Evo.ow {σ0 : Store} {h0 h h' : Heap} {ow : Addr → Prop} (e : Evo σ0 h0 σ h) (k : ∀ b o, ¬ ow b → h.get? b = some o → h'.get? b = some o) (fr : ∀ b, ow b → h0.get? b = none) : Evo σ0 h0 σ h' :=
  ⟨fun b o q n => (e.keep b o q n).trans fun o' q' => .inl (k b o' (fun z => by rw [fr b z] at q; cases q) q'), e.dom, e.mono, fun a i n q => k a _ (fun z => by rw [fr a z] at q; cases q) (e.tup a i n q)⟩

theorem plain_kept {h h' : Heap} {a : Addr} {items : Array Value} (x : h.PlainList a items) (k : ∀ o, h.get? a = some o → Kept h' a o) : h'.PlainList a items := by
  obtain ⟨n, e⟩ := x
  exact ⟨n, (k _ e).exact fun es n z => (by cases z)⟩
theorem Fm.less {h : Heap} {ρ' : Rho} (F : Fm C σ h env ρ) (k : ∀ x v, ρ'.get x = some v → ρ.get x = some v) : Fm C σ h env ρ' := by
  obtain ⟨f1, ⟨m, hm, f2⟩, f3, f5, f6, f7, f8⟩ := F
  refine ⟨f1, ⟨m, hm, fun x v hx hv => f2 x v hx (k x v hv)⟩, f3, f5, fun x c hc => ?_, f7, f8⟩
  obtain ⟨ov, a, b⟩ := f6 x c hc
  exact ⟨ov, a, fun v hv => b v (k x v hv)⟩

/-- the tests of a comprehension: none, or one -/
def Ifs (C : Cx) (A : Around) (env : Env) (ifs : List Expr) (ρ : Rho) (σ : Store) (Q : Bool → Store → Prop) (X : XP) : Prop :=
  match ifs with
  | [] => Q true σ
  | [c] => Tst C A env c ρ σ Q X
  | _ => False
theorem Ifs.run {ifs : List Expr} {Q : Bool → Store → Prop} (h : Ifs C A env ifs ρ σ Q X) (S : St C σ s) (F : Fm C σ s.heap env ρ) :
    wpAny C.M A (forIn ifs true fun c r => if r = true then do let ok ← isTrue c env (eval c env); pure (ForInStep.yield ok) else pure (ForInStep.yield r)) (TP C σ s.heap Q) X s := by
  match ifs, h with
  | [], h => exact wpAny_tests_nil (TP.pure S h)
  | [c], h => exact wpAny_tests_one (h s S F)

/-- the turns of a comprehension, item by item -/
def CmpL (C : Cx) (A : Around) (env : Env) (x : Str) (ifs : List Expr) (elt : Expr) (ok : Store → Prop) (ρ : Rho) (R : List V → Store → Prop) : List V → List V → Store → Prop
  | [], out, σ => R out σ
  | y :: ys, out, σ => Ifs C A env ifs (ρ.put x y) σ (fun b σ1 =>
      if b then Ev C A env elt (ρ.put x y) σ1 (fun z σ2 => out.length ≤ sizeLine ∧ ok σ2 ∧ CmpL C A env x ifs elt ok ρ R ys (out ++ [z]) σ2) (fun _ _ => False)
      else ok σ1 ∧ CmpL C A env x ifs elt ok ρ R ys out σ1) (fun _ _ => False)

theorem comp_turns {x : Str} {px pos : Pos} {elt iter : Expr} {ifs : List Expr} {scope : Scope} {it : Value} {ow : Addr → Prop} {J : Nat → Heap → Prop} {ok : Store → Prop} {xs : List V} {acc : Addr}
    (W : Itr C A (.Name x px) it ow J ok xs) {σ0 : Store} {h0 : Heap} {R : List V → Store → Prop} {RR : Result → Shared → Prop}
    (hx : env.kindOf x = some .local) (hxc : env.cells.lookup x = none) (hxr : ρ.get x = none)
    (fr : ∀ b, ow b → h0.get? b = none) (fra : h0.get? acc = none) (frl : h0.get? env.locals = none) (frb : ∀ b, ow b → C.h₀.get? b = none) (frba : C.h₀.get? acc = none)
    (nac : ¬ ow acc) (nal : acc ≠ env.locals) (nol : ¬ ow env.locals) (noo : ∀ b, ow b → ¬ Own env b) (nao : ¬ Own env acc)
    (hR : ∀ out σ s items, R out σ → St C σ s → Evo σ0 h0 σ s.heap → s.heap.PlainList acc items → VRs s.heap items.toList out → σ acc = none → (∃ m, s.heap.Ns env.locals m) → σ env.locals = none → RR (.ok .next) s) :
    ∀ m k out σ s items, xs.length - k = m → ok σ → CmpL C A env x ifs elt ok ρ R (xs.drop k) out σ → St C σ s → Fm C σ s.heap env ρ → Evo σ0 h0 σ s.heap → J k s.heap → (∀ b, ow b → σ b = none) →
      s.heap.PlainList acc items → VRs s.heap items.toList out → σ acc = none →
      codeAny C.M A (.compLoop (.ListComp elt [⟨.Name x px, iter, ifs, 0⟩] scope pos) 0 it (.ref acc) env) RR s := by
  intro m
  induction m using Nat.strongRecOn with
  | ind m ih =>
  intro k out σ s items hm hok hL S F e0 hJ no pl rl na
  have nt : ∀ b o, ow b → s.heap.get? b = some o → ¬ Imm o := fun b o q => W.notTup k _ b o hJ q
  have dn : ∀ (σ' : Store) (h h' : Heap), Evo σ h σ' h' → ∀ b o, h.get? b = some o → σ b = none → σ' b = none := fun σ' h h' e b o q n => by
    cases z : σ' b with
    | none => rfl
    | some o2 =>
      rcases e.dom b o2 z with ⟨o', e'⟩ | e'
      · rw [n] at e'; cases e'
      · rw [q] at e'; cases e'
  refine codeAny_of_tree ?_
  show wpAny C.M _ ((compTurn (.ListComp elt [⟨.Name x px, iter, ifs, 0⟩] scope pos) 0 it (.ref acc) env).onRaise (fun x => do noteFrame x env; theTreesLotGoes x)) _ _ s
  rw [show A.under (.compLoop (.ListComp elt [⟨.Name x px, iter, ifs, 0⟩] scope pos) 0 it (.ref acc) env) = A from Around.under_of_weight (by rfl)]
  refine wpAny_noted ?_
  rw [compTurn_list]
  refine wpAny_bind (wpAny_standAt (wpAny_bind ?_))
  cases hxk : xs[k]? with
  | none =>
    have hd : xs.drop k = [] := List.drop_eq_nil_of_le (List.getElem?_eq_none_iff.mp hxk)
    rw [hd] at hL
    refine W.done k σ s _ _ S hok hJ hxk no fun h' tk kp => ?_
    refine wpAny_pure ?_
    have S' : St C σ { s with heap := h', toks := tk } := S.ow kp nt no frb
    obtain ⟨m', hm', _⟩ := (F.ow kp nt noo).loc
    exact hR out σ _ items hL S' (e0.ow kp fr) (pl.at fun o e => kp _ _ nac e) (rl.mono (tk_ow kp nt)) na ⟨m', hm'⟩ F.locs
  | some y =>
    obtain ⟨hk, rfl⟩ := List.getElem?_eq_some_iff.mp hxk
    rw [List.drop_eq_getElem_cons hk] at hL
    refine W.more k σ s _ _ _ S hok hJ hxk no fun v h' tk rv kp nt' go => ?_
    refine wpAny_bind (go _ _ fun h'' tk' J' kp' => ?_)
    have kp2 : ∀ b o, ¬ ow b → s.heap.get? b = some o → h''.get? b = some o := fun b o q e => kp' b o q (kp b o q e)
    have S2 : St C σ { s with heap := h'', toks := tk' } := S.ow kp2 nt no frb
    have F2 : Fm C σ h'' env ρ := F.ow kp2 nt noo
    have rv2 : VR h'' v xs[k] := rv.mono (tk_ow kp' nt')
    have e2 : Evo σ0 h0 σ h'' := e0.ow kp2 fr
    have pl2 : h''.PlainList acc items := pl.at fun o e => kp2 _ _ nac e
    have rl2 : VRs h'' items.toList out := rl.mono (tk_ow kp2 nt)
    obtain ⟨m0, hm0, fm0⟩ := F2.loc
    refine wpAny_bind (wpAny_assign_Name (wpAny_storeName_local (s := { s with heap := h'', toks := tk' }) hx hm0 (fun h3 hn3 hs3 => ?_) (by rw [F2.fn]; rfl)))
    obtain ⟨S3, F3, e3⟩ := Fm.storeLocal (h := h'') (t := tk' + 1) (s := { s with heap := h'', toks := tk' }) S2 F2 hx hm0 fm0 hn3 hs3 rv2 hxc
    have e03 : Evo σ0 h0 σ h3 := e2.ow (ow := fun b => b = env.locals) (fun b o q e => (hs3.2 b q).trans e) (fun b q => q ▸ frl)
    have J3 : J (k + 1) h3 := W.frame _ _ _ J' e3.tup fun b o q e => (hs3.2 b fun z => nol (z ▸ q)).trans e
    have pl3 : h3.PlainList acc items := pl2.at fun o e => (hs3.2 _ nal).trans e
    have rl3 : VRs h3 items.toList out := rl2.mono e3.tup
    have nx : ∀ (s4 : Shared) (σ4 : Store) (out' : List V) (items' : Array Value), ok σ4 → CmpL C A env x ifs elt ok ρ R (xs.drop (k + 1)) out' σ4 → St C σ4 s4 → Fm C σ4 s4.heap env (ρ.put x xs[k]) → Evo σ0 h0 σ4 s4.heap → J (k + 1) s4.heap →
        (∀ b, ow b → σ4 b = none) → s4.heap.PlainList acc items' → VRs s4.heap items'.toList out' → σ4 acc = none →
        codeAny C.M A (.compLoop (.ListComp elt [⟨.Name x px, iter, ifs, 0⟩] scope pos) 0 it (.ref acc) env) RR s4 := fun s4 σ4 out' items' hok4 hL4 S4 F4 e4 J4 no4 pl4 rl4 na4 =>
      ih (xs.length - (k + 1)) (by omega) (k + 1) out' σ4 s4 items' rfl hok4 hL4 S4 (F4.less fun z u hz => by
        rw [Rho.get_put, if_neg (fun q => by rw [q, hxr] at hz; cases hz)]; exact hz) e4 J4 no4 pl4 rl4 na4
    refine wpAny_bind (wpAny_mono (Ifs.run hL S3 F3) ?_ fun _ _ z => z.elim)
    rintro b s4 ⟨σ4, q4, S4, e4⟩
    have no4 : ∀ b, ow b → σ4 b = none := fun b q => by
      obtain ⟨o', eo⟩ := W.there _ _ b J3 q
      exact dn σ4 _ _ e4 b o' eo (no b q)
    have na4 : σ4 acc = none := by obtain ⟨n, eo⟩ := pl3; exact dn σ4 _ _ e4 acc _ eo na
    have J4 : J (k + 1) s4.heap := W.frame _ _ _ J3 e4.tup fun b o q e => (e4.keep b o e (no b q)).exact (W.notD _ _ b o J3 q e)
    have pl4 : s4.heap.PlainList acc items := plain_kept pl3 fun o e => e4.keep _ _ e na
    have rl4 := rl3.mono e4.tup
    have F4 := F3.evo e4
    cases b with
    | false =>
      simp only [Bool.false_eq_true, if_false] at q4 ⊢
      exact wpAny_pure ⟨rfl, nx s4 σ4 out items q4.1 q4.2 S4 F4 (e03.trans e4) J4 no4 pl4 rl4 na4⟩
    | true =>
      simp only [if_true] at q4 ⊢
      refine wpAny_bind (wpAny_bind (wpAny_mono (q4 s4 S4 F4) ?_ fun _ _ z => z.elim))
      rintro u s5 ⟨z, σ5, ⟨hz, hok5, q5⟩, r5, S5, e5⟩
      have dn5 : ∀ b o, s4.heap.get? b = some o → σ4 b = none → σ5 b = none := fun b o q n => by
        cases z : σ5 b with
        | none => rfl
        | some o2 =>
          rcases e5.dom b o2 z with ⟨o', e'⟩ | e'
          · rw [n] at e'; cases e'
          · rw [q] at e'; cases e'
      have no5 : ∀ b, ow b → σ5 b = none := fun b q => by
        obtain ⟨o', eo⟩ := W.there _ _ b J4 q
        exact dn5 b o' eo (no4 b q)
      have na5 : σ5 acc = none := by obtain ⟨n, eo⟩ := pl4; exact dn5 acc _ eo na4
      have J5 : J (k + 1) s5.heap := W.frame _ _ _ J4 e5.tup fun b o q e => (e5.keep b o e (no4 b q)).exact (W.notD _ _ b o J4 q e)
      have pl5 : s5.heap.PlainList acc items := plain_kept pl4 fun o e => e5.keep _ _ e na4
      have rl5 := rl4.mono e5.tup
      have F5 := F4.evo e5
      refine wpAny_bind (wpAny_list_append_plain pl5 (fun h6 pl6 sb6 => ?_) (by have := rl5.length; simp only [Array.length_toList] at this; omega))
      have nt6 : ∀ b o, b = acc → s5.heap.get? b = some o → ¬ Imm o := fun b o q => by
        subst q
        obtain ⟨n, eo⟩ := pl5
        intro z; rw [eo] at z; cases z; exact Imm.not (by simp) (by simp) (by simp)
      have kp6 : ∀ b o, ¬ b = acc → s5.heap.get? b = some o → h6.get? b = some o := fun b o q e => (sb6.2 b q).trans e
      have S6 : St C σ5 { s5 with heap := h6, toks := s5.toks } := S5.ow (ow := fun b => b = acc) kp6 nt6 (fun b q => q ▸ na5) (fun b q => q ▸ frba)
      have F6 : Fm C σ5 h6 env (ρ.put x xs[k]) := F5.ow (ow := fun b => b = acc) kp6 nt6 (fun b q => q ▸ nao)
      have tk6 : TupKeep s5.heap h6 := tk_ow (ow := fun b => b = acc) kp6 nt6
      refine wpAny_pure (wpAny_pure ⟨rfl, nx _ σ5 (out ++ [z]) (items.push u) hok5 q5 S6 F6 (((e03.trans e4).trans e5).ow (ow := fun b => b = acc) kp6 (fun b q => q ▸ fra)) ?_ no5 pl6 ?_ na5⟩)
      · exact W.frame _ _ _ J5 tk6 fun b o q e => kp6 b o (fun z => nac (z ▸ q)) e
      · simp only [Array.toList_push]
        exact (rl5.mono tk6).append (.cons (r5.mono tk6) .nil)
end

end Mine

set_option autoImplicit false
set_option linter.unusedVariables false
namespace Mine
open PySem PySem.W

section
variable {C : Cx} {A : Around} {env : Env} {ρ : Rho} {σ : Store} {X : XP} {s : Shared}

/-- what an iterator's making gives -/
def SrcP (C : Cx) (A : Around) (target : Expr) (σ : Store) (h : Heap) (Q : List V → (Store → Prop) → Store → Prop) (it : Value) (s2 : Shared) : Prop :=
  ∃ xs ok σ' ow J, Q xs ok σ' ∧ Itr C A target it ow J ok xs ∧ ok σ' ∧ St C σ' s2 ∧ Evo σ h σ' s2.heap ∧ (∀ b, ow b → h.get? b = none ∧ σ' b = none) ∧ J 0 s2.heap
def Src (C : Cx) (A : Around) (env : Env) (target iter : Expr) (ρ : Rho) (σ : Store) (Q : List V → (Store → Prop) → Store → Prop) (X : XP) : Prop :=
  ∀ s, St C σ s → Fm C σ s.heap env ρ → wpAny C.M A (eval iter env) (fun x s1 => wpAny C.M A (pyIter x) (SrcP C A target σ s.heap Q) X s1) X s

theorem Fm.own_there {h : Heap} (F : Fm C σ h env ρ) {b : Addr} (w : Own env b) : ∃ o, h.get? b = some o := by
  rcases w with rfl | ⟨x, e⟩
  · obtain ⟨m, ⟨o, _, _, ho, _⟩, _⟩ := F.loc
    exact ⟨o, ho⟩
  · obtain ⟨ov, ⟨o, ho, _⟩, _⟩ := F.cell x b e
    exact ⟨o, ho⟩

/- sources -/
/-- iterating over a value gives these items -/
def ItV (C : Cx) (A : Around) (target : Expr) (x : V) (σ : Store) (xs : List V) (ok : Store → Prop) : Prop :=
  ok σ ∧ ∀ s v (Q : Value → Shared → Prop) (X : XP), St C σ s → VR s.heap v x → (∀ it ow J h' tk, Itr C A target it ow J ok xs → (∀ b o, s.heap.get? b = some o → h'.get? b = some o) → (∀ b, ow b → s.heap.objs.size ≤ b) → J 0 h' →
    Q it { s with heap := h', toks := tk }) → wpAny C.M A (pyIter v) Q X s

theorem St.fresh' (S : St C σ s) {b : Addr} (hb : s.heap.objs.size ≤ b) : σ b = none := by
  cases q : σ b with
  | none => rfl
  | some o =>
    obtain ⟨y, hy, _⟩ := (S.rep _ _ q).isSome
    exact absurd (Heap.lt_size hy) (Nat.not_lt.mpr hb)
theorem get?_fresh' {h : Heap} {b : Addr} (hb : h.objs.size ≤ b) : h.get? b = none := by
  cases q : h.get? b with
  | none => rfl
  | some o => exact absurd (Heap.lt_size q) (Nat.not_lt.mpr hb)
theorem Evo.fresh {σ' : Store} {h h' : Heap} {b : Addr} (S : St C σ' s) (e : Evo σ h σ' s.heap) (hb : s.heap.objs.size ≤ b) : h.get? b = none := by
  cases q : h.get? b with
  | none => rfl
  | some o =>
    have f := get?_fresh' hb
    cases z : σ b with
    | none =>
      obtain ⟨o', z'⟩ := (e.keep _ _ q z).got
      rw [z'] at f; cases f
    | some o' =>
      obtain ⟨o'', e''⟩ := e.mono _ _ z
      rw [S.fresh' hb] at e''; cases e''

theorem Src.of {target iter : Expr} {Q : List V → (Store → Prop) → Store → Prop} (h : Ev C A env iter ρ σ (fun x σ1 => ∃ xs ok, ItV C A target x σ1 xs ok ∧ Q xs ok σ1) X) : Src C A env target iter ρ σ Q X := by
  intro s S F
  refine wpAny_mono (h s S F) ?_ fun _ _ z => z
  rintro v s1 ⟨x, σ1, ⟨xs, ok, ⟨hok, hi⟩, q⟩, r1, S1, e1⟩
  refine hi s1 v _ _ S1 r1 fun it ow J h' tk W kp fr hJ => ?_
  exact ⟨xs, ok, σ1, ow, J, q, W, hok, S1.ext kp, e1.trans (.ext kp), fun b w => ⟨Evo.fresh (h' := s1.heap) S1 e1 (fr b w), S1.fresh' (fr b w)⟩, hJ⟩

def irange (a b : Int) : List V := (List.range (b - a).toNat).map fun (i : Nat) => V.int (a + (i : Int))
theorem Itr.rng {target : Expr} {it : Addr} {a b : Int} (hh : A.handled = none) :
    Itr C A target (.ref it) (fun b => b = it) (fun k h => IsRangeIter h it (a + k) (((b - a).toNat : Int) - k) 1) (fun _ => True) (irange a b) where
  frame := fun k h h' e _ kp => kp it _ rfl e
  notTup := fun k h b o' e q z => by subst q; rw [e] at z; cases z; exact Imm.not (by simp) (by simp) (by simp)
  notD := fun k h b o' e q z es n w => by subst q; rw [e] at z; cases z; cases w
  there := fun k h b e q => by subst q; exact ⟨_, e⟩
  more := fun k σ s x Q X S hok hJ hx no hQ => by
    obtain ⟨hk, rfl⟩ := List.getElem?_eq_some_iff.mp hx
    have hk' : k < (b - a).toNat := by simpa [irange] using hk
    refine wpAny_pyNext_range_item hJ (by omega) fun h' J' sb => ?_
    refine hQ _ h' (s.toks + 1) ?_ (fun b o q e => (sb.2 b q).trans e) (fun b o' q z => ?_) (fun Q' X' hq => by
      exact letGo_plain (s := { s with heap := h', toks := s.toks + 1 }) J' rfl (by decide) (hq h' (s.toks + 1) (by
        have e1 : a + (k : Int) + 1 = a + ((k + 1 : Nat) : Int) := by omega
        have e2 : ((b - a).toNat : Int) - k - 1 = ((b - a).toNat : Int) - ((k + 1 : Nat) : Int) := by omega
        rw [e1, e2] at J'; exact J') fun _ _ _ e => e))
    · simp only [irange, List.getElem_map, List.getElem_range]; exact .int _ _
    · subst q; rw [J'] at z; cases z; exact Imm.not (by simp) (by simp) (by simp)
  self := fun k s Q X hJ hq => wpAny_pyIter_rangeiter hJ hq
  done := fun k σ s Q X S hok hJ hx no hQ => by
    have h1 := List.getElem?_eq_none_iff.mp hx
    simp only [irange, List.length_map, List.length_range] at h1
    exact wpAny_pyNext_range_end hh hJ (by omega) fun h' kp => hQ h' s.toks fun b o q e => kp b o q e
theorem ItV.rng {target : Expr} {a b : Int} (hh : A.handled = none) (ha : -(2 ^ 62) ≤ a) (ha' : a < 2 ^ 62) (hb : -(2 ^ 62) ≤ b) (hb' : b < 2 ^ 62) : ItV C A target (.rng a b) σ (irange a b) (fun _ => True) := by
  refine ⟨trivial, fun s v Q X S r hQ => ?_⟩
  cases r with
  | rng hr =>
    refine wpAny_pyIter_range hr (small_one ha ha' hb hb') ?_
    refine hQ _ _ _ _ s.toks (Itr.rng (a := a) (b := b) hh) (fun b o e => Heap.get?_push_of_some _ e) (fun b w => w ▸ Nat.le_refl _) ?_
    have e2 : Builtin.Range.rangeSize a b 1 = ((b - a).toNat : Int) := by rw [rangeSize_one]; split <;> omega
    rw [e2]
    simpa using Heap.get?_push_size s.heap (o := { cls := .type "range_iterator", data := .fields #[rawInt a, rawInt ((b - a).toNat : Int), rawInt 1] }) rfl
end

end Mine

set_option autoImplicit false
set_option linter.unusedVariables false
namespace Mine
open PySem PySem.W

/-- the cells that a comprehension takes along -/
def clOf (cells : List (Str × Addr)) : List (Str × NameKind) → List (Str × Addr) → List (Str × Addr)
  | [], acc => acc
  | (n, k) :: r, acc => if k == .free then clOf cells r ((n, (cells.lookup n).getD 0) :: acc) else clOf cells r acc

theorem closure_go {env : Env} : ∀ (names : List (Str × NameKind)) (acc : List (Str × Addr)), (names.all fun p => p.2 != .free || (env.cells.lookup p.1).isSome) = true →
    (forIn names acc fun (x : Str × NameKind) (r : List (Str × Addr)) => (if x.2 == NameKind.free then (do let c ← cellOf env x.1; pure (ForInStep.yield ((x.1, c) :: r))) else pure (ForInStep.yield r) : Sem (ForInStep (List (Str × Addr))))) = pure (clOf env.cells names acc)
  | [], acc, _ => rfl
  | (n, k) :: r, acc, h => by
    simp only [List.all_cons, Bool.and_eq_true] at h
    rw [List.forIn_cons]
    unfold clOf
    by_cases q : (k == .free) = true
    · have hk : k = .free := by cases k <;> first | rfl | cases q
      subst hk
      have h1 : (env.cells.lookup n).isSome = true := by simpa using h.1
      obtain ⟨c, hc⟩ := Option.isSome_iff_exists.mp h1
      have e : cellOf env n = pure c := by unfold cellOf; rw [hc]
      simp only [q, if_true, e, pure_bind, hc, Option.getD_some]
      exact closure_go r _ h.2
    · simp only [q, if_false, pure_bind]
      exact closure_go r _ h.2
theorem closureFor_mine {env : Env} {scope : Scope} (h : (scope.names.all fun p => p.2 != .free || (env.cells.lookup p.1).isSome) = true) : closureFor scope env = pure (clOf env.cells scope.names []) := by
  unfold closureFor
  have := closure_go (env := env) scope.names [] h
  simp only [bind_pure]
  exact this

theorem clOf_mem {cells : List (Str × Addr)} : ∀ {names : List (Str × NameKind)} {acc : List (Str × Addr)} {x : Str} {c : Addr}, (x, c) ∈ clOf cells names acc → (x, c) ∈ acc ∨ ((x, NameKind.free) ∈ names ∧ c = (cells.lookup x).getD 0)
  | [], _, _, _, h => .inl h
  | (n, k) :: r, acc, x, c, h => by
    unfold clOf at h
    split at h
    · rename_i q
      have hk : k = .free := by cases k <;> first | rfl | cases q
      subst hk
      rcases clOf_mem h with z | ⟨z, e⟩
      · rcases List.mem_cons.mp z with z | z
        · cases z; exact .inr ⟨.head _, rfl⟩
        · exact .inl z
      · exact .inr ⟨.tail _ z, e⟩
    · rcases clOf_mem h with z | ⟨z, e⟩
      · exact .inl z
      · exact .inr ⟨.tail _ z, e⟩

/-- the names that a comprehension takes along, with their values -/
inductive Capt (ρ : Rho) : List (Str × NameKind) → Rho → Prop
  | nil : Capt ρ [] []
  | skip {n : Str} {k : NameKind} {r : List (Str × NameKind)} {ρc : Rho} : k ≠ .free → Capt ρ r ρc → Capt ρ ((n, k) :: r) ρc
  | take {n : Str} {v : V} {r : List (Str × NameKind)} {ρc : Rho} : ρ.get n = some v → Capt ρ r ρc → Capt ρ ((n, .free) :: r) ((n, v) :: ρc)
theorem Capt.get {ρ : Rho} {x : Str} {v : V} : ∀ {names : List (Str × NameKind)} {ρc : Rho}, Capt ρ names ρc → ρc.get x = some v → ρ.get x = some v ∧ (x, NameKind.free) ∈ names
  | _, _, .nil, h => by cases h
  | _, _, .skip _ c, h => by
    obtain ⟨a, b⟩ := c.get h
    exact ⟨a, .tail _ b⟩
  | _, _, .take (n := n) (v := u) (ρc := ρc) e c, h => by
    have h' : (if x = n then some u else Rho.get ρc x) = some v := h
    by_cases q : x = n
    · subst q; rw [if_pos rfl] at h'; cases h'; exact ⟨e, .head _⟩
    · rw [if_neg q] at h'
      obtain ⟨a, b⟩ := c.get h'
      exact ⟨a, .tail _ b⟩

def compOk (scope : Scope) : Bool := scope.names.all fun p => p.2 != .cell && (p.2 != .free || scope.names.lookup p.1 == some .free) && (p.2 != .local || scope.names.lookup p.1 == some .local)

theorem lookup_map_kind {g : Str → NameKind → NameKind} {x : Str} : ∀ (names : List (Str × NameKind)), (names.map fun (n, k) => (n, g n k)).lookup x = (names.lookup x).map (g x)
  | [] => rfl
  | (n, k) :: r => by
    simp only [List.map_cons, List.lookup_cons]
    cases q : x == n with
    | true => rw [beq_iff_eq.mp q]; rfl
    | false => exact lookup_map_kind r
theorem relabel_lookup {scope : Scope} {env : Env} {x : Str} : (relabel scope env).names.lookup x = (scope.names.lookup x).map fun k => if (k == .free && env.scope.kind == .function && env.kindOf x == some .cell) then .cell else k := by
  have e : (relabel scope env).names = scope.names.map fun (n, k) => (n, (fun (n : Str) (k : NameKind) => if (k == .free && env.scope.kind == .function && env.kindOf n == some .cell) then NameKind.cell else k) n k) := by
    unfold relabel
    refine List.map_congr_left fun p _ => ?_
    obtain ⟨n, k⟩ := p
    dsimp only
    split <;> rfl
  rw [e]
  exact lookup_map_kind (g := fun n k => if (k == .free && env.scope.kind == .function && env.kindOf n == some .cell) then NameKind.cell else k) scope.names

section
variable {C : Cx} {A : Around} {env : Env} {ρ : Rho} {σ : Store} {X : XP} {s : Shared}

theorem St.adopt {a : Addr} {o : O} {σ0 : Store} {h0 : Heap} (S : St C σ s) (r : Rep C s.heap a o) (hn : C.n₀ ≤ a) (e : Evo σ0 h0 σ s.heap) (hf : h0.get? a = none) : St C (σ.upd a o) s ∧ Evo σ0 h0 (σ.upd a o) s.heap := by
  refine ⟨⟨S.base, fun b x hx => ?_, fun b x hx => ?_, S.gens, S.os⟩, e.keep, fun b x hx => ?_, fun b x hx => ?_, e.tup⟩
  · by_cases q : b = a
    · subst q; rw [Store.upd_self] at hx; cases hx; exact r
    · rw [Store.upd_ne _ _ q] at hx; exact S.rep b x hx
  · by_cases q : b = a
    · subst q; exact ⟨S.baseFresh hn, .inl hn⟩
    · rw [Store.upd_ne _ _ q] at hx; exact S.above b x hx
  · by_cases q : b = a
    · subst q; exact .inr hf
    · rw [Store.upd_ne _ _ q] at hx; exact e.dom b x hx
  · obtain ⟨o', h'⟩ := e.mono b x hx
    by_cases q : b = a
    · subst q; exact ⟨_, Store.upd_self ..⟩
    · exact ⟨o', by rw [Store.upd_ne _ _ q]; exact h'⟩

/-- a comprehension, whatever is done with its list -/
theorem comp_run {x : Str} {px pos : Pos} {elt iter : Expr} {ifs : List Expr} {scope : Scope} {ρc : Rho} {use : Option (Value → Sem Unit)} {Qr : Value → Shared → Prop} {R : List V → Store → Prop}
    (hfree : (scope.names.all fun p => p.2 != .free || (env.cells.lookup p.1).isSome) = true) (hck : compOk scope = true) (hk : scope.kind = .function) (hx : scope.names.lookup x = some .local) (cap : Capt ρ scope.names ρc)
    (hs : ∀ x, foldedSetIterable iter env x = pure x) (S : St C σ s) (F : Fm C σ s.heap env ρ)
    (h : Src C A env (.Name x px) iter ρ σ (fun xs ok σ1 => ∀ L, CmpL C A (compEnvC scope (clOf env.cells scope.names []) L env) x ifs elt ok ρc R xs [] σ1) X)
    (fin : ∀ acc L σ2 s2 out items, R out σ2 → St C σ2 s2 → Evo σ s.heap σ2 s2.heap → s2.heap.PlainList acc items → VRs s2.heap items.toList out → σ2 acc = none → (∃ m, s2.heap.Ns L m) → σ2 L = none → C.n₀ ≤ acc → C.n₀ ≤ L → acc ≠ L → s.heap.get? acc = none → s.heap.get? L = none →
      compPost C.M A X use Qr (.ref acc) L (.ok .next) s2) :
    wpAny C.M A (comprehension (.ListComp elt [⟨.Name x px, iter, ifs, 0⟩] scope pos) scope env (firstIterPos [⟨.Name x px, iter, ifs, 0⟩] pos) (newList []) false (eval iter env) use) Qr X s := by
  have names_of : ∀ p ∈ scope.names, p.2 ≠ .cell ∧ (p.2 = .free → scope.names.lookup p.1 = some .free) ∧ (p.2 = .local → scope.names.lookup p.1 = some .local) := fun p hp => by
    have := List.all_eq_true.mp hck p hp
    simp only [Bool.and_eq_true, bne_iff_ne, ne_eq, Bool.or_eq_true, beq_iff_eq] at this
    refine ⟨this.1.1, fun e => ?_, fun e => ?_⟩
    · rcases this.1.2 with z | z
      · exact absurd e z
      · exact z
    · rcases this.2 with z | z
      · exact absurd e z
      · exact z
  refine wpAny_comprehension_free (cl := clOf env.cells scope.names []) rfl hs (closureFor_mine hfree) hk (fun p hp e => (names_of p hp).2.2 e) ?_
  refine wpAny_mono (h s S F) (fun v s1 h1 => wpAny_mono h1 ?_ fun _ _ z => z) fun _ _ z => z
  rintro it s2 ⟨xs, ok, σ', ow, J, q, W, hok, S2, e2, fr, hJ⟩
  refine wpAny_newObj_type (wpAny_newFunctionEnv (fun p hp => (names_of p hp).1) (by intro y hy; simp at hy) (fun h₁ hns₁ hsb₁ => ?_) hk)
  dsimp only at hns₁ hsb₁ ⊢
  generalize hH2 : s2.heap.push { cls := .type "list", dict := none, data := .seq ([] : List Value).toArray } = H2 at hns₁ hsb₁ ⊢
  have hC : H2.objs.size = s2.heap.objs.size + 1 := by rw [← hH2, push_size]
  have hDC : s2.heap.objs.size ≠ H2.objs.size := by rw [hC]; exact Nat.ne_of_lt (Nat.lt_succ_self _)
  have old : ∀ b o, s2.heap.get? b = some o → h₁.get? b = some o := fun b o e =>
    hsb₁.extBut b o (by rw [hC]; exact Nat.ne_of_lt (Nat.lt_succ_of_lt (Heap.lt_size e))) (Heap.get?_push_of_some _ (hH2 ▸ Heap.get?_push_of_some _ e))
  have hacc : h₁.PlainList s2.heap.objs.size #[] := ⟨_, hsb₁.extBut _ _ hDC (Heap.get?_push_of_some _ (hH2 ▸ Heap.get?_push_size _ rfl))⟩
  have F2 := F.evo e2
  have e12 : Evo σ' s2.heap σ' h₁ := .ext old
  have fresh2 : ∀ b, s2.heap.objs.size ≤ b → s.heap.get? b = none := fun b hb => Evo.fresh (h' := s2.heap) S2 e2 hb
  have hLle : s2.heap.objs.size ≤ H2.objs.size := by rw [hC]; exact Nat.le_succ _
  have cl_of : ∀ y c, (clOf env.cells scope.names []).lookup y = some c → env.cells.lookup y = some c ∧ scope.names.lookup y = some .free := fun y c hy => by
    rcases clOf_mem (mem_of_lookup hy) with z | ⟨z, e⟩
    · cases z
    · have h1 := List.all_eq_true.mp hfree _ z
      have h2 : (env.cells.lookup y).isSome = true := by simpa using h1
      obtain ⟨c', hc'⟩ := Option.isSome_iff_exists.mp h2
      rw [hc'] at e
      exact ⟨by rw [hc', e]; rfl, (names_of _ z).2.1 rfl⟩
  have S3 : St C σ' { s2 with heap := h₁, toks := s2.toks } := S2.ext old
  have F3 : Fm C σ' h₁ (compEnvC scope (clOf env.cells scope.names []) H2.objs.size env) ρc := by
    refine ⟨by show (relabel scope env).kind = _; exact hk, ⟨_, hns₁, fun y v hy hv => ?_⟩, S2.fresh' hLle, Nat.le_trans S2.size hLle, fun y c hy => ?_, fun y c hy => ?_, fun y z c hy hz => ?_⟩
    · exfalso
      obtain ⟨_, m⟩ := cap.get hv
      have h1 := (names_of _ m).2.1 rfl
      have h2 : (relabel scope env).names.lookup y = some .local := hy
      rw [relabel_lookup, h1] at h2
      simp only [Option.map_some, Option.some.injEq] at h2
      split at h2 <;> cases h2
    · obtain ⟨h1, _⟩ := cl_of y c hy
      obtain ⟨ov, a, b⟩ := (F2.evo e12).cell y c h1
      exact ⟨ov, a, fun v hv => b v (cap.get hv).1⟩
    · obtain ⟨h1, _⟩ := cl_of y c hy
      obtain ⟨n1, n2, n3⟩ := F2.ncell y c h1
      refine ⟨n1, ?_, n3⟩
      obtain ⟨ov, a, b⟩ := F2.cell y c h1
      exact Nat.ne_of_lt (Nat.lt_of_lt_of_le a.lt hLle)
    · exact F.apart y z c (cl_of y c hy).1 (cl_of z c hz).1
  have ownc : ∀ b, Own (compEnvC scope (clOf env.cells scope.names []) H2.objs.size env) b → b = H2.objs.size ∨ Own env b := by
    rintro b (z | ⟨y, z⟩)
    · exact .inl z
    · exact .inr (.inr ⟨y, (cl_of y b z).1⟩)
  have own_lt : ∀ b, Own env b → b < s2.heap.objs.size := fun b w => by
    obtain ⟨o, e⟩ := F2.own_there w
    exact Heap.lt_size e
  have owlt : ∀ b, ow b → b < s2.heap.objs.size := fun b w => by
    obtain ⟨o, e⟩ := W.there 0 _ b hJ w
    exact Heap.lt_size e
  have loop : ∀ s₃ : Shared, s₃ = { s2 with heap := h₁, toks := s2.toks + ([] : List (Str × Value)).length } →
      codeAny C.M A (.compLoop (.ListComp elt [⟨.Name x px, iter, ifs, 0⟩] scope pos) 0 it (.ref s2.heap.objs.size) (compEnvC scope (clOf env.cells scope.names []) H2.objs.size env))
        (compPost C.M A X use Qr (.ref s2.heap.objs.size) H2.objs.size) s₃ := by
    rintro s₃ rfl
    refine comp_turns (σ0 := σ) (h0 := s.heap) (R := R) W ?_ ?_ ?_ (fun b w => (fr b w).1) (fresh2 _ (Nat.le_refl _)) (fresh2 _ hLle) (fun b w => ?_) ?_ (fun w => Nat.lt_irrefl _ (owlt _ w)) hDC
      (fun w => absurd (owlt _ w) (Nat.not_lt.mpr hLle)) (fun b w z => ?_) (fun z => ?_) ?_ _ 0 [] σ' _ #[] rfl hok (by simpa using q H2.objs.size) S3 F3 (e2.trans e12) (W.frame _ _ _ hJ e12.tup fun b o _ e => old b o e)
      (fun b w => (fr b w).2) hacc .nil (S2.fresh' (Nat.le_refl _))
    · exact lookup_relabel_local hx
    · cases z : (clOf env.cells scope.names []).lookup x with
      | none => exact z
      | some c => have := (cl_of x c z).2; rw [hx] at this; cases this
    · cases z : ρc.get x with
      | none => rfl
      | some v => have := (names_of _ (cap.get z).2).2.1 rfl; rw [hx] at this; cases this
    · cases z : C.h₀.get? b with
      | none => rfl
      | some o => have := S.base _ _ z; rw [(fr b w).1] at this; cases this
    · cases z : C.h₀.get? s2.heap.objs.size with
      | none => rfl
      | some o => have := S.base _ _ z; rw [fresh2 _ (Nat.le_refl _)] at this; cases this
    · rcases ownc b z with y | y
      · exact absurd (owlt _ w) (by rw [y]; exact Nat.not_lt.mpr hLle)
      · obtain ⟨o, e⟩ := F.own_there y
        rw [(fr b w).1] at e; cases e
    · rcases ownc _ z with y | y
      · exact hDC y
      · exact Nat.lt_irrefl _ (own_lt _ y)
    · intro out σ2 s4 items hR S4 e4 pl4 r4 na4 ns4 nl4
      exact fin _ _ σ2 s4 out items hR S4 e4 pl4 r4 na4 ns4 nl4 S2.size (Nat.le_trans S2.size hLle) hDC (fresh2 _ (Nat.le_refl _)) (fresh2 _ hLle)
  exact codeAny_compStart_list (loop _ rfl) (W.self 0 _ _ _ (W.frame _ _ _ hJ e12.tup fun b o _ e => old b o e) (loop _ rfl))

theorem Ev.comp {x : Str} {px pos : Pos} {elt iter : Expr} {ifs : List Expr} {scope : Scope} {ρc : Rho} {Q : V → Store → Prop}
    (hfree : (scope.names.all fun p => p.2 != .free || (env.cells.lookup p.1).isSome) = true) (hck : compOk scope = true) (hk : scope.kind = .function) (hx : scope.names.lookup x = some .local) (cap : Capt ρ scope.names ρc)
    (h : Src C A env (.Name x px) iter ρ σ (fun xs ok σ1 => ∀ L, CmpL C A (compEnvC scope (clOf env.cells scope.names []) L env) x ifs elt ok ρc (fun out σ2 => ∀ a, σ2 a = Option.none → Q (.ref a) (σ2.upd a (.list out))) xs [] σ1) X)
    (hs : ∀ x, foldedSetIterable iter env x = Pure.pure x := by intro _; kernel_rfl) : Ev C A env (.ListComp elt [⟨.Name x px, iter, ifs, 0⟩] scope pos) ρ σ Q X := by
  intro s S F
  rw [eval_ListComp]
  refine comp_run hfree hck hk hx cap hs S F h ?_
  intro acc L σ2 s2 out items q S2 e2 pl2 r2 na2 ⟨m, hm⟩ nl2 n1 n2 hne fa fl
  refine ⟨m, hm, fun h' sb => ?_⟩
  have kp : ∀ b o, ¬ b = L → s2.heap.get? b = some o → h'.get? b = some o := fun b o w e => (sb.2 b w).trans e
  have nt : ∀ b o, b = L → s2.heap.get? b = some o → ¬ Imm o := fun b o w z => by
    subst w
    obtain ⟨o', es, ep, ho, hd, _⟩ := hm
    rw [ho] at z; cases z; exact Imm.notDict hd
  have S3 : St C σ2 { s2 with heap := h', toks := s2.toks } := S2.ow (ow := fun b => b = L) kp nt (fun b w => w ▸ nl2) (fun b w => by
    subst w
    cases z : C.h₀.get? b with
    | none => rfl
    | some o => exact absurd (C.low _ _ z) (Nat.not_lt.mpr n2))
  have e3 : Evo σ s.heap σ2 h' := e2.ow (ow := fun b => b = L) kp (fun b w => w ▸ fl)
  obtain ⟨S4, e4⟩ := S3.adopt (a := acc) (o := .list out) ⟨items, pl2.at fun o e => kp _ _ hne e, r2.mono (tk_ow (ow := fun b => b = L) kp nt)⟩ n1 e3 fa
  exact ⟨.ref acc, _, q acc na2, .ref _, S4, e4⟩

end

end Mine

set_option autoImplicit false
set_option linter.unusedVariables false
namespace Mine
open PySem PySem.W PySem.SeqAt

section
variable {C : Cx} {A : Around} {env : Env} {ρ : Rho} {σ : Store} {X : XP} {s : Shared}

mutual
/-- a value as plain data -/
inductive DR (C : Cx) (σ : Store) : V → PyData → Prop where
  | none : DR C σ .none .none
  | bool (b : Bool) : DR C σ (.bool b) (.bool b)
  | int (i : Int) : DR C σ (.int i) (.int i)
  | str (x : Str) : DR C σ (.str x) (.str x)
  | tup {xs : List V} {ds : List PyData} : DRs C σ xs ds → DR C σ (.tup xs) (.tuple ds)
  | list {l : Addr} {xs : List V} {ds : List PyData} : LstAt C σ l xs → DRs C σ xs ds → DR C σ (.ref l) (.list ds)
inductive DRs (C : Cx) (σ : Store) : List V → List PyData → Prop where
  | nil : DRs C σ [] []
  | cons {x : V} {xs : List V} {d : PyData} {ds : List PyData} : DR C σ x d → DRs C σ xs ds → DRs C σ (x :: xs) (d :: ds)
end

mutual
theorem DR.reads (S : St C σ s) : ∀ {x : V} {d : PyData} {v : Value}, DR C σ x d → VR s.heap v x → ∃ as, Reads s.heap v d as
  | _, _, _, .none, .none => ⟨_, .none⟩
  | _, _, _, .bool b, .bool _ => ⟨_, .bool b⟩
  | _, _, _, .int i, .int _ t => ⟨_, .int i t⟩
  | _, _, _, .str x, .str _ t => ⟨_, .str x t⟩
  | _, _, _, .tup ds, .tup e r => by
    obtain ⟨as, h⟩ := DRs.reads S ds r
    exact ⟨_, .tuple e rfl rfl h⟩
  | _, _, _, .list (l := l) hl ds, .ref _ => by
    obtain ⟨items, ⟨o, e, c, n, hd⟩, r⟩ := hl.raw S
    obtain ⟨as, h⟩ := DRs.reads S ds r
    exact ⟨_, .list e c hd h⟩
theorem DRs.reads (S : St C σ s) : ∀ {xs : List V} {ds : List PyData} {vs : List Value}, DRs C σ xs ds → VRs s.heap vs xs → ∃ as, ReadsAll s.heap vs ds as
  | _, _, _, .nil, .nil => ⟨_, .nil⟩
  | _, _, _, .cons a b, .cons r rs => by
    obtain ⟨as, h⟩ := DR.reads S a r
    obtain ⟨bs, h'⟩ := DRs.reads S b rs
    exact ⟨_, .cons h h'⟩
end

theorem CmpWP.eq {x y : V} {d e : PyData} {Q : V → Store → Prop} (hx : DR C σ x d) (hy : DR C σ y e) (h1 : d.canLay0 = true) (h2 : e.canLay0 = true) (hu : A.units + min d.depth e.depth < cLine) (h : Q (.bool (PyData.eqv d e)) σ) :
    CmpWP C A .Eq x y σ Q X := by
  intro s a b S ra rb
  obtain ⟨as, r1⟩ := hx.reads S ra
  obtain ⟨bs, r2⟩ := hy.reads S rb
  exact eqOverData _ _ _ _ _ _ _ _ _ _ _ _ r1 r2 h1 h2 hu (EP.pure S h (.bool _))
/- None, True, False -/
/- lists: truth, length, items -/
def BltWP (C : Cx) (A : Around) (id : String) (args : List V) (σ : Store) (Q : V → Store → Prop) (X : XP) : Prop := CallWP C A (.builtin id) args σ Q X

theorem BltWP.len_list {l : Addr} {xs : List V} {Q : V → Store → Prop} (hl : LstAt C σ l xs) (hz : xs.length < 2 ^ 62) (h : Q (.int xs.length) σ) : CallWP C A (.builtin "len") [.ref l] σ Q X := by
  intro s vs S r
  cases r with
  | cons r1 r2 =>
  cases r2; cases r1
  obtain ⟨items, il, rl⟩ := hl.raw S
  have e := rl.length
  simp only [Array.length_toList] at e
  refine Calls.call_len_list il (by omega) ⟨_, σ, h, ?_, S.toks _, .refl ..⟩
  rw [e]; exact .int _ _
end

end Mine

set_option autoImplicit false
set_option linter.unusedVariables false
namespace Mine
open PySem PySem.W PySem.SeqAt

/-- its items come by a built-in -/
def Gets (s : Shared) (a : Value) : Prop := ∃ T id, s.TypeIs a T ∧ typeLookup (.type T) "__getitem__" = pure (some (.builtin id))
def ItemWP (C : Cx) (A : Around) (o i : V) (σ : Store) (Q : V → Store → Prop) (X : XP) : Prop :=
  ∀ s a b, St C σ s → VR s.heap a o → VR s.heap b i → Gets s a ∧ wpAny C.M A (getItem a b) (EP C σ s.heap Q) X s

section
variable {C : Cx} {A : Around} {env : Env} {ρ : Rho} {σ : Store} {X : XP} {s : Shared}

theorem Gets.list {a : Addr} {items : Array Value} (h : s.heap.IsList a items) : Gets s (.ref a) := ⟨_, _, h.typeIs, PySem.slot_list_getitem.lookup⟩
theorem Gets.str {x : Str} {t : Tok} : Gets s (.str x t) := ⟨_, _, typeIs_str s x t, PyProof.Rows.slot_str_getitem.lookup⟩

theorem getitem_mine {o i : Value} {slice value : Expr} {Q : Value → Shared → Prop} {E : XP} (g : Gets s o) (h : wpAny C.M A (getItem o i) Q E s) :
    wpAny C.M A (do let r ← subscripted slice (← getitemInPython o) o i; letTemporaryGo value o r; pure r) Q E s := by
  obtain ⟨T, id, hT, hl⟩ := g
  refine wpAny_bind ?_
  rw [getitemInPython_of_ne hT.not_modules]
  refine wpAny_bind (wpAny_specialOf hT hl (wpAny_pure ?_))
  refine wpAny_bind (wpAny_mono (Q := Q) ?_ (fun r s' q => wpAny_bind (wpAny_letTemporaryGo (wpAny_pure q))) fun _ _ z => z)
  unfold subscripted
  split
  · exact wpAny_operating h
  · rename_i e; cases e
  · exact wpAny_operating h

theorem Ev.sub {value slice : Expr} {pos : Pos} {Q : V → Store → Prop} (h : Ev C A env value ρ σ (fun o σ1 => Ev C A env slice ρ σ1 (fun i σ2 => ItemWP C A o i σ2 Q X) X) X) : Ev C A env (.Subscript value slice pos) ρ σ Q X := by
  intro s S F
  rw [eval_Subscript]
  refine wpAny_bind (wpAny_mono (h s S F) ?_ fun _ _ z => z)
  rintro o s1 ⟨x, σ1, h1, r1, S1, e1⟩
  refine wpAny_bind (wpAny_holding (wpAny_mono (h1 s1 S1 (F.evo e1)) ?_ fun _ _ z => z))
  rintro i s2 ⟨y, σ2, h2, r2, S2, e2⟩
  obtain ⟨g, w⟩ := h2 s2 o i S2 (r1.mono e2.tup) r2
  exact wpAny_bind (wpAny_standAt (wpAny_mono (getitem_mine g w) (fun _ _ z => (z.after e2).after e1) fun _ _ z => z))

theorem ItemWP.list {l : Addr} {xs : List V} {k : Int} {y : V} {Q : V → Store → Prop} (hl : LstAt C σ l xs) (h0 : 0 ≤ k) (hk : k < 2 ^ 63) (hx : xs[k.toNat]? = some y) (h : Q y σ) : ItemWP C A (.ref l) (.int k) σ Q X := by
  intro s a b S ra rb
  cases ra; cases rb
  obtain ⟨items, il, rl⟩ := hl.raw S
  obtain ⟨u, hu, ru⟩ := rl.get hx
  exact ⟨.list il, wpAny_getItem_list il h0 hk (by simpa using hu) (EP.pure S h ru)⟩
theorem ItemWP.str {x : Str} {k : Int} {c : Nat} {Q : V → Store → Prop} (hlo : -(2 ^ 63) ≤ k) (hhi : k < 2 ^ 63) (hc : (seqIndex? k x.length).bind (x.cps[·]?) = some c) (h : Q (.str ⟨#[c]⟩) σ) : ItemWP C A (.str x) (.int k) σ Q X := by
  intro s a b S ra rb
  cases rb; cases ra
  exact ⟨.str, PyProof.Rows.getItem_str (by simp; omega) hc (EP.pureT S h (.str _ _))⟩

/- dicts -/
def iget (es : List (Int × V)) (x : Int) : Option V := (es.find? fun p => decide (p.1 = x)).map (·.2)
/- slices -/
def Prt (C : Cx) (A : Around) (env : Env) (e : Option Expr) (ρ : Rho) (σ : Store) (Q : Option Int → Store → Prop) (X : XP) : Prop :=
  match e with
  | none => Q none σ
  | some e => Ev C A env e ρ σ (fun x σ1 => ∃ i, x = .int i ∧ Q (some i) σ1) X
theorem Prt.none {Q : Option Int → Store → Prop} (h : Q Option.none σ) : Prt C A env Option.none ρ σ Q X := h
theorem Prt.some {e : Expr} {Q : Option Int → Store → Prop} (h : Ev C A env e ρ σ (fun x σ1 => ∃ i, x = .int i ∧ Q (Option.some i) σ1) X) : Prt C A env (Option.some e) ρ σ Q X := h
theorem Prt.run {e : Option Expr} {Q : Option Int → Store → Prop} (h : Prt C A env e ρ σ Q X) (S : St C σ s) (F : Fm C σ s.heap env ρ) :
    wpAny C.M A (valueOrNone (evalOpt e env)) (fun v s' => ∃ k σ', Q k σ' ∧ IsPart v k ∧ St C σ' s' ∧ Evo σ s.heap σ' s'.heap) X s := by
  match e, h with
  | Option.none, h => exact wpAny_pure ⟨Option.none, σ, h, .none, S, .refl ..⟩
  | Option.some e, h =>
    refine wpAny_mono (h s S F) ?_ fun _ _ z => z
    rintro v s1 ⟨x, σ1, ⟨i, rfl, q⟩, r1, S1, e1⟩
    cases r1
    exact ⟨Option.some i, σ1, q, .int _ _, S1, e1⟩

def pySlice {α : Type} (xs : List α) (lo hi : Option Int) : List α :=
  (sliceRange (sliceBounds lo hi none xs.length).1 (sliceBounds lo hi none xs.length).2.1 (sliceBounds lo hi none xs.length).2.2).filterMap (xs[·]?)
theorem VRs.pick {h : Heap} {vs : List Value} {xs : List V} (r : VRs h vs xs) : ∀ ks : List Nat, VRs h (ks.filterMap (vs[·]?)) (ks.filterMap (xs[·]?))
  | [] => .nil
  | k :: ks => by
    have ih := VRs.pick r ks
    cases q : xs[k]? with
    | none =>
      have : vs[k]? = none := by
        have h1 := List.getElem?_eq_none_iff.mp q
        exact List.getElem?_eq_none_iff.mpr (by rw [r.length]; exact h1)
      simp only [List.filterMap_cons, q, this]; exact ih
    | some y =>
      obtain ⟨u, hu, ru⟩ := r.get q
      simp only [List.filterMap_cons, q, hu]; exact .cons ru ih
theorem slicePick_list (items : Array Value) (lo hi : Option Int) : (slicePick items lo hi none).toList = pySlice items.toList lo hi := by
  unfold slicePick pySlice
  simp
end

end Mine

set_option autoImplicit false
set_option linter.unusedVariables false
namespace Mine
open PySem PySem.W PySem.SeqAt

/-- a built-in type's value without a dict of its own -/
def TyV (C : Cx) (σ : Store) (x : V) (T : String) : Prop := ∀ s v, St C σ s → VR s.heap v x → s.TypeIs v T ∧ ∀ a, v = .ref a → ∃ ob, s.heap.get? a = some ob ∧ ob.dict = none

section
variable {C : Cx} {A : Around} {env : Env} {ρ : Rho} {σ : Store} {X : XP} {s : Shared}

theorem TyV.list {l : Addr} {xs : List V} (h : σ l = some (.list xs)) : TyV C σ (.ref l) "list" := by
  intro s v S r
  cases r
  obtain ⟨items, ⟨n, e⟩, _⟩ := S.rep _ _ h
  exact ⟨⟨_, e, rfl⟩, fun a q => by cases q; exact ⟨_, e, rfl⟩⟩
theorem TyV.str {x : Str} : TyV C σ (.str x) "str" := by
  intro s v S r
  cases r
  exact ⟨typeIs_str _ _ _, fun a q => by cases q⟩

/-- a method of a built-in type -/
theorem Ev.bmeth {o : Expr} {name : Str} {apos pos : Pos} {args : List Expr} {T id : String} {Q : V → Store → Prop} (pa : PlainAttrs T) (slot : Slot T name id) (hty : typeOf (.builtin id) = Pure.pure (.type "method_descriptor"))
    (h : Ev C A env o ρ σ (fun x σ1 => TyV C σ1 x T ∧ Ags C A env pos args ρ σ1 (fun xs σ2 => CallWP C A (.builtin id) (x :: xs) σ2 Q X) X) X)
    (hbase : attributeBase o name env (eval o env) = eval o env := by kernel_rfl)
    (hfew : ((backTo pos (starEach args env)).all (fun x => !x.1) && (backToKw pos (keywordEach [] env)).all (fun x => x.1.isSome)
      && decide (args.length + ([] : List Keyword).length + (if ([] : List Keyword).isEmpty then 0 else 1) < 30)) = true := by kernel_rfl)
    (hline : (apos.endLine == pos.line) = true := by kernel_rfl) (hst : (backTo pos (starEach args env)).any (·.1) = false := by kernel_rfl) : Ev C A env (.Call (.Attribute o name apos) args [] pos) ρ σ Q X := by
  intro s S F
  refine wpAny_Call_method hbase hfew hline pa slot hty (wpAny_mono (h s S F) ?_ fun _ _ z => z)
  rintro ov s1 ⟨x, σ1, ⟨t, q⟩, r1, S1, e1⟩
  obtain ⟨t1, t2⟩ := t s1 ov S1 r1
  exact ⟨t1, t2, wpAny_mono (callWith_mine (first := [ov]) (fx := [x]) Kp.blt S1 (F.evo e1) (.cons r1 .nil) q hst) (fun _ _ z => z.after e1) fun _ _ z => z⟩

/- one list changed -/
/- remove -/
end

end Mine

set_option autoImplicit false
set_option linter.unusedVariables false
namespace Mine
open PySem PySem.W PySem.SeqAt

inductive Ty where
  | none | bool | int | str | tup | list | dict
def Ty.name : Ty → String
  | .none => "NoneType" | .bool => "bool" | .int => "int" | .str => "str" | .tup => "tuple" | .list => "list" | .dict => "dict"
inductive HasTy (C : Cx) (σ : Store) : V → Ty → Prop
  | none : HasTy C σ .none .none
  | bool (b : Bool) : HasTy C σ (.bool b) .bool
  | int (i : Int) : HasTy C σ (.int i) .int
  | str (x : Str) : HasTy C σ (.str x) .str
  | tup (xs : List V) : HasTy C σ (.tup xs) .tup
  | list {l : Addr} {xs : List V} : LstAt C σ l xs → HasTy C σ (.ref l) .list
  | sd {l : Addr} {xs : List (Str × V)} : σ l = some (.sd xs) → HasTy C σ (.ref l) .dict
  | id {l : Addr} {xs : List (Int × V)} : σ l = some (.id xs) → HasTy C σ (.ref l) .dict
def isiB : Ty → String → Bool
  | .bool, "int" => true
  | .bool, "bool" => true
  | .int, "int" => true
  | .str, "str" => true
  | .tup, "tuple" => true
  | .list, "list" => true
  | _, _ => false

section
variable {C : Cx} {A : Around} {env : Env} {ρ : Rho} {σ : Store} {X : XP} {s : Shared}

/-- how the heap bears a value's type -/
def Bears (s : Shared) (v : Value) : Ty → Prop
  | .none => v = .none
  | .bool => ∃ b, v = .bool b
  | .int => ∃ i t, v = .int i t
  | .str => ∃ x t, v = .str x t
  | .tup => ∃ a o, v = .ref a ∧ s.heap.get? a = some o ∧ o.cls = .type "tuple"
  | .list => ∃ a o, v = .ref a ∧ s.heap.get? a = some o ∧ o.cls = .type "list"
  | .dict => ∃ a o, v = .ref a ∧ s.heap.get? a = some o ∧ o.cls = .type "dict"
theorem HasTy.bears {x : V} {t : Ty} (h : HasTy C σ x t) {v : Value} (S : St C σ s) (r : VR s.heap v x) : Bears s v t := by
  cases h with
  | none => cases r; rfl
  | bool b => cases r; exact ⟨_, rfl⟩
  | int i => cases r; exact ⟨_, _, rfl⟩
  | str i => cases r; exact ⟨_, _, rfl⟩
  | tup xs => cases r with | tup e _ => exact ⟨_, _, rfl, e, rfl⟩
  | list hl =>
    cases r
    obtain ⟨items, ⟨o, e, c, _⟩, _⟩ := hl.raw S
    exact ⟨_, _, rfl, e, c⟩
  | sd hl =>
    cases r
    obtain ⟨kvs, D, _⟩ := S.rep _ _ hl
    obtain ⟨o, e, c⟩ := D.typeIs (s := s)
    exact ⟨_, _, rfl, e, c⟩
  | id hl =>
    cases r
    obtain ⟨kvs, D, _⟩ := S.rep _ _ hl
    obtain ⟨o, e, c⟩ := D.typeIs (s := s)
    exact ⟨_, _, rfl, e, c⟩

theorem isi_raw {v : Value} {t : Ty} {U : String} {Q : Value → Shared → Prop} {E : XP} (b : Bears s v t) (hU : U = "int" ∨ U = "bool" ∨ U = "str" ∨ U = "list" ∨ U = "tuple") (h : ∀ tk, Q (.bool (isiB t U)) { s with toks := tk }) :
    wpAny C.M A (call (.builtin "isinstance") [v, .type U]) Q E s := by
  rcases hU with rfl | rfl | rfl | rfl | rfl
  · cases t with
    | none => subst b; exact call_isinstance (isinstance_false_none (by decide +kernel) F.isi_meta_int F.sub_NoneType_int) (h _)
    | bool => obtain ⟨_, rfl⟩ := b; exact call_isinstance (isinstance_true (Tx := "bool") F.isi_meta_int F.sub_bool_int) ⟨rfl, h s.toks⟩
    | int => obtain ⟨_, _, rfl⟩ := b; exact call_isinstance (isinstance_true (Tx := "int") F.isi_meta_int F.sub_int_int) ⟨rfl, h s.toks⟩
    | str => obtain ⟨_, _, rfl⟩ := b; exact call_isinstance (isinstance_false_str (by decide +kernel) F.isi_meta_int F.sub_str_int) (h _)
    | tup => obtain ⟨a, o, rfl, e, hc⟩ := b; exact call_isinstance (isinstance_false_tuple (by decide +kernel) F.isi_meta_int F.sub_tuple_int) ⟨⟨o, e, hc⟩, h _⟩
    | list => obtain ⟨a, o, rfl, e, hc⟩ := b; exact call_isinstance (isinstance_false_list (by decide +kernel) F.isi_meta_int F.sub_list_int) ⟨⟨o, e, hc⟩, h _⟩
    | dict => obtain ⟨a, o, rfl, e, hc⟩ := b; exact call_isinstance (isinstance_false_dict (by decide +kernel) F.isi_meta_int F.sub_dict_int) ⟨⟨o, e, hc⟩, h _⟩
  · cases t with
    | none => subst b; exact call_isinstance (isinstance_false_none (by decide +kernel) F.isi_meta_bool F.sub_NoneType_bool) (h _)
    | bool => obtain ⟨_, rfl⟩ := b; exact call_isinstance (isinstance_true (Tx := "bool") F.isi_meta_bool F.sub_bool_bool) ⟨rfl, h s.toks⟩
    | int => obtain ⟨_, _, rfl⟩ := b; exact call_isinstance (isinstance_false_int (by decide +kernel) F.isi_meta_bool F.sub_int_bool) (h _)
    | str => obtain ⟨_, _, rfl⟩ := b; exact call_isinstance (isinstance_false_str (by decide +kernel) F.isi_meta_bool F.sub_str_bool) (h _)
    | tup => obtain ⟨a, o, rfl, e, hc⟩ := b; exact call_isinstance (isinstance_false_tuple (by decide +kernel) F.isi_meta_bool F.sub_tuple_bool) ⟨⟨o, e, hc⟩, h _⟩
    | list => obtain ⟨a, o, rfl, e, hc⟩ := b; exact call_isinstance (isinstance_false_list (by decide +kernel) F.isi_meta_bool F.sub_list_bool) ⟨⟨o, e, hc⟩, h _⟩
    | dict => obtain ⟨a, o, rfl, e, hc⟩ := b; exact call_isinstance (isinstance_false_dict (by decide +kernel) F.isi_meta_bool F.sub_dict_bool) ⟨⟨o, e, hc⟩, h _⟩
  · cases t with
    | none => subst b; exact call_isinstance (isinstance_false_none (by decide +kernel) F.isi_meta_str F.sub_NoneType_str) (h _)
    | bool => obtain ⟨_, rfl⟩ := b; exact call_isinstance (isinstance_false_bool (by decide +kernel) F.isi_meta_str F.sub_bool_str) (h _)
    | int => obtain ⟨_, _, rfl⟩ := b; exact call_isinstance (isinstance_false_int (by decide +kernel) F.isi_meta_str F.sub_int_str) (h _)
    | str => obtain ⟨_, _, rfl⟩ := b; exact call_isinstance (isinstance_true (Tx := "str") F.isi_meta_str F.sub_str_str) ⟨rfl, h s.toks⟩
    | tup => obtain ⟨a, o, rfl, e, hc⟩ := b; exact call_isinstance (isinstance_false_tuple (by decide +kernel) F.isi_meta_str F.sub_tuple_str) ⟨⟨o, e, hc⟩, h _⟩
    | list => obtain ⟨a, o, rfl, e, hc⟩ := b; exact call_isinstance (isinstance_false_list (by decide +kernel) F.isi_meta_str F.sub_list_str) ⟨⟨o, e, hc⟩, h _⟩
    | dict => obtain ⟨a, o, rfl, e, hc⟩ := b; exact call_isinstance (isinstance_false_dict (by decide +kernel) F.isi_meta_str F.sub_dict_str) ⟨⟨o, e, hc⟩, h _⟩
  · cases t with
    | none => subst b; exact call_isinstance (isinstance_false_none (by decide +kernel) F.isi_meta_list F.sub_NoneType_list) (h _)
    | bool => obtain ⟨_, rfl⟩ := b; exact call_isinstance (isinstance_false_bool (by decide +kernel) F.isi_meta_list F.sub_bool_list) (h _)
    | int => obtain ⟨_, _, rfl⟩ := b; exact call_isinstance (isinstance_false_int (by decide +kernel) F.isi_meta_list F.sub_int_list) (h _)
    | str => obtain ⟨_, _, rfl⟩ := b; exact call_isinstance (isinstance_false_str (by decide +kernel) F.isi_meta_list F.sub_str_list) (h _)
    | tup => obtain ⟨a, o, rfl, e, hc⟩ := b; exact call_isinstance (isinstance_false_tuple (by decide +kernel) F.isi_meta_list F.sub_tuple_list) ⟨⟨o, e, hc⟩, h _⟩
    | list => obtain ⟨a, o, rfl, e, hc⟩ := b; exact call_isinstance (isinstance_true (Tx := "list") F.isi_meta_list F.sub_list_list) ⟨⟨o, e, hc⟩, h s.toks⟩
    | dict => obtain ⟨a, o, rfl, e, hc⟩ := b; exact call_isinstance (isinstance_false_dict (by decide +kernel) F.isi_meta_list F.sub_dict_list) ⟨⟨o, e, hc⟩, h _⟩
  · cases t with
    | none => subst b; exact call_isinstance (isinstance_false_none (by decide +kernel) F.isi_meta_tuple F.sub_NoneType_tuple) (h _)
    | bool => obtain ⟨_, rfl⟩ := b; exact call_isinstance (isinstance_false_bool (by decide +kernel) F.isi_meta_tuple F.sub_bool_tuple) (h _)
    | int => obtain ⟨_, _, rfl⟩ := b; exact call_isinstance (isinstance_false_int (by decide +kernel) F.isi_meta_tuple F.sub_int_tuple) (h _)
    | str => obtain ⟨_, _, rfl⟩ := b; exact call_isinstance (isinstance_false_str (by decide +kernel) F.isi_meta_tuple F.sub_str_tuple) (h _)
    | tup => obtain ⟨a, o, rfl, e, hc⟩ := b; exact call_isinstance (isinstance_true (Tx := "tuple") F.isi_meta_tuple F.sub_tuple_tuple) ⟨⟨o, e, hc⟩, h s.toks⟩
    | list => obtain ⟨a, o, rfl, e, hc⟩ := b; exact call_isinstance (isinstance_false_list (by decide +kernel) F.isi_meta_tuple F.sub_list_tuple) ⟨⟨o, e, hc⟩, h _⟩
    | dict => obtain ⟨a, o, rfl, e, hc⟩ := b; exact call_isinstance (isinstance_false_dict (by decide +kernel) F.isi_meta_tuple F.sub_dict_tuple) ⟨⟨o, e, hc⟩, h _⟩

theorem CallWP.isi {x : V} {t : Ty} {U : String} {Q : V → Store → Prop} (ht : HasTy C σ x t) (hU : U = "int" ∨ U = "bool" ∨ U = "str" ∨ U = "list" ∨ U = "tuple") (h : Q (.bool (isiB t U)) σ) : CallWP C A (.builtin "isinstance") [x, .typ U] σ Q X := by
  intro s vs S r
  cases r with
  | cons r1 r2 =>
  cases r2 with
  | cons r2 r3 =>
  cases r3; cases r2
  exact isi_raw (ht.bears S r1) hU fun tk => EP.pureT S h (.bool _)

/- list(), tuple() -/
/- len, abs -/
theorem CallWP.len_str {x : Str} {Q : V → Store → Prop} (hz : x.length < 2 ^ 62) (h : Q (.int x.length) σ) : CallWP C A (.builtin "len") [.str x] σ Q X := by
  intro s vs S r
  cases r with
  | cons r1 r2 =>
  cases r2
  cases r1
  exact PyProof.Rows.len_str (by omega) ⟨_, σ, h, .int _ _, S.toks _, .refl ..⟩
end

end Mine

set_option autoImplicit false
set_option linter.unusedVariables false
namespace Mine
open PySem PySem.W PySem.SeqAt

section
variable {C : Cx} {A : Around} {env : Env} {ρ : Rho} {σ : Store} {X : XP} {s : Shared}

theorem BinWP.cat {l b : Addr} {xs ys : List V} {Q : V → Store → Prop} (hl : LstAt C σ l xs) (hb : LstAt C σ b ys) (hz : xs.length + ys.length ≤ sizeLine) (h : ∀ a, σ a = none → Q (.ref a) (σ.upd a (.list (xs ++ ys)))) :
    BinWP C A .Add (.ref l) (.ref b) σ Q X := by
  intro s u v S r1 r2
  cases r1; cases r2
  obtain ⟨items, ⟨⟨c1, d1, t1, s1⟩, ho, hc, n, hd⟩, rl⟩ := hl.raw S
  obtain ⟨items2, ⟨⟨c2, d2, t2, s2⟩, ho2, hc2, n2, hd2⟩, rl2⟩ := hb.raw S
  have el := rl.length
  have el2 := rl2.length
  simp only [Array.length_toList] at el el2
  dsimp only at hc hd hc2 hd2
  subst hc hd hc2 hd2
  refine concat_meets ⟨_, ho, rfl⟩ ⟨_, ho2, rfl⟩ noFill_list_add seq_list_add PySem.F.slot_list_add PySem.F.entry_list_add (PySem.F.args_list_add_2 _ _) (PyProof.Rows.list_addW l b items items2 n n2 d1 d2 s1 s2 (by omega)) ⟨ho, ho2, ?_⟩
  obtain ⟨S2, e2⟩ := S.new (t := s.toks) (x := { cls := .type "list", data := .seq (items ++ items2) }) (o := .list (xs ++ ys)) ⟨_, ⟨0, Heap.get?_push_size _ rfl⟩, by simp only [Array.toList_append]; exact (rl.append rl2).push⟩
  exact ⟨.ref _, _, h _ S.fresh, .ref _, S2, e2⟩

/- texts -/
theorem CallWP.str_int {n : Int} {Q : V → Store → Prop} (hn : n.natAbs.log2 < 1920) (h : Q (.str (Str.ofString (toString n))) σ) : CallWP C A (.type "str") [.int n] σ Q X := by
  intro s vs S r
  cases r with
  | cons r1 r2 =>
  cases r2; cases r1
  exact P.str_of_int hn (EP.pureT S h (.str _ _))

/-- a list of texts -/
theorem strs_of {h : Heap} : ∀ {vs : List Value} {ts : List Str}, VRs h vs (ts.map V.str) → ∃ l : List (Str × Tok), vs = strValues l ∧ l.map (·.1) = ts
  | vs, [], r => by cases r; exact ⟨[], rfl, rfl⟩
  | vs, t :: ts, r => by
    cases r with
    | cons r1 r2 =>
    cases r1 with
    | str _ tk =>
    obtain ⟨l, rfl, rfl⟩ := strs_of r2
    exact ⟨(t, tk) :: l, rfl, rfl⟩
theorem CallWP.join {x : Str} {l : Addr} {ts : List Str} {Q : V → Store → Prop} (hl : LstAt C σ l (ts.map V.str)) (hok : JoinOk x ts = true) (h : Q (.str (Txt.join x ts)) σ) : CallWP C A (.builtin "str.join") [.str x, .ref l] σ Q X := by
  intro s vs S r
  cases r with
  | cons r1 r2 =>
  cases r2 with
  | cons r2 r3 =>
  cases r3; cases r2; cases r1
  obtain ⟨items, il, rl⟩ := hl.raw S
  obtain ⟨lt, e, et⟩ := strs_of rl
  have : items = (strValues lt).toArray := by rw [← e]
  subst this
  exact SC.join il et hok fun _ _ => EP.pureT S h (.str _ _)

/- dicts -/
/-- the store of an item -/
def SetWP (C : Cx) (A : Around) (o i y : V) (σ : Store) (Q : Store → Prop) (X : XP) : Prop :=
  ∀ s a b v, St C σ s → VR s.heap a o → VR s.heap b i → VR s.heap v y → wpAny C.M A (setItem a b v) (fun _ s' => ∃ σ', Q σ' ∧ St C σ' s' ∧ Evo σ s.heap σ' s'.heap) X s
def iput : List (Int × V) → Int → V → List (Int × V)
  | [], x, v => [(x, v)]
  | (y, u) :: r, x, v => if x = y then (x, v) :: r else (y, u) :: iput r x v
/- in a dict -/
def SysOk (C : Cx) : Prop := sysModules < C.n₀ ∧ sysModules ∉ C.tabs ∧ ¬ C.loose
end

end Mine

set_option autoImplicit false
set_option linter.unusedVariables false
namespace Mine
open PySem PySem.W PySem.SeqAt PyProof.Rows

theorem top_exists (h : Heap) : ∀ n, (∀ b o, h.get? b = some o → b < n) → ∃ m, (∀ b o, h.get? b = some o → b < m) ∧ ∀ k, m = k + 1 → ∃ o, h.get? k = some o
  | 0, hn => ⟨0, hn, fun k e => by cases e⟩
  | n + 1, hn => by
    cases q : h.get? n with
    | some o => exact ⟨n + 1, hn, fun k e => by cases e; exact ⟨o, q⟩⟩
    | none =>
      refine top_exists h n fun b o e => ?_
      have := hn b o e
      rcases Nat.lt_or_eq_of_le (Nat.le_of_lt_succ this) with z | z
      · exact z
      · rw [z, q] at e; cases e

theorem ints_VRs {h : Heap} : ∀ {vs : List Value} {ns : List Int}, IntsAre vs ns → VRs h vs (ns.map V.int)
  | [], ns, hI => by
    cases ns with
    | nil => exact .nil
    | cons _ _ => have := hI.length; simp at this
  | v :: vs, ns, hI => by
    cases ns with
    | nil => have := hI.length; simp at this
    | cons n ns =>
      cases hI with
      | cons _ h2 => exact .cons (.int _ _) (ints_VRs (by assumption))

end Mine

set_option autoImplicit false
set_option linter.unusedVariables false
namespace Mine
open PySem PySem.W PySem.SeqAt PyProof.Rows

section
variable {C : Cx} {A : Around} {env : Env} {ρ : Rho} {σ : Store} {X : XP} {s : Shared}

theorem ofS_ne {a b : String} (h : a ≠ b) : Str.ofString a ≠ Str.ofString b := by
  intro e
  rw [Str.ofString_eq_toList, Str.ofString_eq_toList] at e
  injection e with e
  have e1 : a.toList.map Char.toNat = b.toList.map Char.toNat := by
    have := congrArg Array.toList e; simpa using this
  have inj : Function.Injective Char.toNat := fun x y hxy => by
    have : x.val.toNat = y.val.toNat := hxy
    exact Char.ext (UInt32.toNat_inj.mp this)
  have e2 : a.toList = b.toList := by
    have : ∀ (l m : List Char), l.map Char.toNat = m.map Char.toNat → l = m := by
      intro l
      induction l with
      | nil => intro m hm; cases m with | nil => rfl | cons _ _ => simp at hm
      | cons x l ih =>
        intro m hm
        cases m with
        | nil => simp at hm
        | cons y m =>
          simp only [List.map_cons, List.cons.injEq] at hm
          rw [inj hm.1, ih m hm.2]
    exact this _ _ e1
  exact h (by rw [← String.ofList_toList (s := a), ← String.ofList_toList (s := b), e2])

/-- a call of a def of the text -/
theorem CallWP.fnK {f : Addr} {name qual : Str} {params : Arguments} {body : List Stmt} {scope : Scope} {dV kV doc pm cdv ct oc : Value} {an od : Option Addr} {osl : Array (Option Value)} {names : List Str} {args : List V} {Q : V → Store → Prop}
    (ho : C.K.lookup f = some ⟨oc, od, .func (fnOf name qual params body scope dV kV doc pm an cdv ct), osl⟩) (hcd : codeIn C.K cdv qual = true)
    (hroom : A.depth < recursionLimit)
    (h : ∀ L, Exs C (A.deeper (callEnvC (fnOf name qual params body scope dV kV doc pm an cdv ct) L f)) (callEnvC (fnOf name qual params body scope dV kV doc pm an cdv ct) L f) body (names.zip args) σ (fun g _ σ' => Q g.val σ') (fun _ _ => False))
    (hbind : ∀ vals : List Value, vals.length = args.length → bindArgs (fnOf name qual params body scope dV kV doc pm an cdv ct) ⟨vals, []⟩ = pure (names.zip vals)) (nd : names.Nodup)
    (hkind : (names.all fun y => scope.names.lookup y == some .local || scope.names.lookup y == some .cell) = true) (hsc : scopeOk scope = true) (hco : scope.isCoroutine = false) (hgen : scope.isGenerator = false) (hk : scope.kind = .function) :
    CallWP C A (.ref f) args σ Q X := by
  refine CallWP.fn (C.KX _ _ ho) rfl C.lim (codeRec_of C.KX hcd) rfl hbind rfl nd (fun x hx => ?_) hroom hsc hco hgen hk h
  have := List.all_eq_true.mp hkind x hx
  rcases Bool.or_eq_true_iff.mp this with q | q
  · exact .inl (by simpa using q)
  · have q' : scope.names.lookup x = some .cell := by simpa using q
    exact .inr ⟨q', fun L => cellsFrom_some _ _ _ (.inl q')⟩
end
end Mine

set_option autoImplicit false
set_option linter.unusedVariables false
namespace Mine
open PySem PySem.W PySem.SeqAt PyProof.Rows

/-- a frame's surroundings, its table of names apart -/
abbrev mkE (sc : Scope) (L : Addr) (cells : List (Str × Addr)) (q : Str) (fn : Option Addr) (cd : Value) (fr : Option Addr) : Env :=
  { scope := sc, locals := L, globals := mainGlobals, cells := cells, qual := q, func := fn, code := cd, frame := fr, builtins := builtinsNs }
/-- a comprehension's table of names -/
def reS (scope sc : Scope) : Scope := { scope with names := scope.names.map fun (n, k) => if (k == .free && sc.kind == .function && sc.names.lookup n == some .cell) then (n, .cell) else (n, k) }
section
variable {C : Cx} {A : Around} {ρ : Rho} {σ : Store} {X : XP} {s : Shared} {sc : Scope} {L : Addr} {cells : List (Str × Addr)} {q : Str} {fn : Option Addr} {cd : Value} {fr : Option Addr}

theorem Ev.nloc {x : Str} {pos : Pos} {v : V} {Q : V → Store → Prop} (hk : sc.names.lookup x = some .local) (hv : ρ.get x = some v) (h : Q v σ) (hd : (x == ("__debug__" : Str)) = false := by kernel_rfl) : Ev C A (mkE sc L cells q fn cd fr) (.Name x pos) ρ σ Q X :=
  Ev.loc hk hv h hd
theorem Ev.ncel {x : Str} {pos : Pos} {v : V} {Q : V → Store → Prop} (hk : sc.names.lookup x = some .cell) (hv : ρ.get x = some v) (h : Q v σ) (hc : (cells.lookup x).isSome = true := by kernel_rfl) (hd : (x == ("__debug__" : Str)) = false := by kernel_rfl) : Ev C A (mkE sc L cells q fn cd fr) (.Name x pos) ρ σ Q X := by
  obtain ⟨c, hc⟩ := Option.isSome_iff_exists.mp hc
  exact Ev.cel hk hc hv h hd
theorem Ev.nglob {x : Str} {pos : Pos} {v : Value} {y : V} {Q : V → Store → Prop} (hk : sc.names.lookup x = some .globalImplicit) (e : nsIn C.K mainGlobals x = some (some v)) (r : VR C.h₀ v y) (h : Q y σ) (hd : (x == ("__debug__" : Str)) = false := by kernel_rfl) :
    Ev C A (mkE sc L cells q fn cd fr) (.Name x pos) ρ σ Q X := Ev.glob hk e r h rfl hd
theorem Ev.nblt {x : Str} {pos : Pos} {v : Value} {y : V} {Q : V → Store → Prop} (hk : sc.names.lookup x = some .globalImplicit) (e : nsIn C.K mainGlobals x = some none) (hv : bootBuiltins x = some v) (r : VR C.h₀ v y) (h : Q y σ) (hn : x ≠ "__name__") (hd : (x == ("__debug__" : Str)) = false := by kernel_rfl) :
    Ev C A (mkE sc L cells q fn cd fr) (.Name x pos) ρ σ Q X := Ev.gblt hk e hv r h hn rfl rfl hd
theorem Asg.nloc {x : Str} {pos : Pos} {y : V} {ρ' : Rho} {Q : Rho → Store → Prop} (hk : sc.names.lookup x = some .local) (hp : ρ.put x y = ρ') (h : Q ρ' σ) (hc : cells.lookup x = none := by kernel_rfl) :
    Asg C A (mkE sc L cells q fn cd fr) (.Name x pos) y ρ σ Q X := Asg.loc hk hc hp h
theorem Asg.ncel {x : Str} {pos : Pos} {y : V} {ρ' : Rho} {Q : Rho → Store → Prop} (hk : sc.names.lookup x = some .cell) (hp : ρ.put x y = ρ') (h : Q ρ' σ) (hc : (cells.lookup x).isSome = true := by kernel_rfl) :
    Asg C A (mkE sc L cells q fn cd fr) (.Name x pos) y ρ σ Q X := by
  obtain ⟨c, hc⟩ := Option.isSome_iff_exists.mp hc
  exact Asg.cel hk hc hp h

theorem Then.next {env : Env} {ss : List Stmt} {Q : FV → Rho → Store → Prop} (h : Exs C A env ss ρ σ Q X) : Then C A env ss Q X .next ρ σ := h
theorem Then.ret {env : Env} {ss : List Stmt} {v : V} {Q : FV → Rho → Store → Prop} (h : Q (.ret v) ρ σ) : Then C A env ss Q X (.ret v) ρ σ := h
/-- a call of a def of the text -/
theorem CallWP.def {f : Addr} {name qual : Str} {params : Arguments} {body : List Stmt} {scope : Scope} {dV kV doc pm cdv ct oc : Value} {an od : Option Addr} {osl : Array (Option Value)} (names : List Str) {args : List V} {Q : V → Store → Prop}
    (ho : C.K.lookup f = some ⟨oc, od, .func (fnOf name qual params body scope dV kV doc pm an cdv ct), osl⟩) (hcd : codeIn C.K cdv qual = true)
    (hroom : A.depth < recursionLimit)
    (hbind : ∀ vals : List Value, vals.length = args.length → bindArgs (fnOf name qual params body scope dV kV doc pm an cdv ct) ⟨vals, []⟩ = pure (names.zip vals)) (nd : names.Nodup)
    (hkind : (names.all fun y => scope.names.lookup y == some .local || scope.names.lookup y == some .cell) = true) (hsc : scopeOk scope = true) (hco : scope.isCoroutine = false) (hgen : scope.isGenerator = false) (hk : scope.kind = .function)
    (h : ∀ L A', A'.handled = A.handled → A'.depth = A.depth + 1 → A'.units = A.units + 3 → Exs C A' (mkE scope L (cellsFrom (L + 1) scope.names []) (qual ++ ".<locals>.") (some f) cdv (some L)) body (names.zip args) σ (fun g _ σ' => Q g.val σ') (fun _ _ => False)) :
    CallWP C A (.ref f) args σ Q X :=
  CallWP.fnK ho hcd hroom (fun L => h L _ rfl rfl rfl) hbind nd hkind hsc hco hgen hk

/-- a comprehension -/
theorem Ev.lcomp {x : Str} {px pos : Pos} {elt iter : Expr} {ifs : List Expr} {scope : Scope} {ρc : Rho} {Q : V → Store → Prop} (cap : Capt ρ scope.names ρc) (hx : scope.names.lookup x = some .local) (hck : compOk scope = true) (hk : scope.kind = .function)
    (h : Src C A (mkE sc L cells q fn cd fr) (.Name x px) iter ρ σ (fun xs ok σ1 => ∀ L', CmpL C A (mkE (reS scope sc) L' (clOf cells scope.names []) q none cd fr) x ifs elt ok ρc (fun out σ2 => ∀ a, σ2 a = Option.none → Q (.ref a) (σ2.upd a (.list out))) xs [] σ1) X)
    (hfree : (scope.names.all fun p => p.2 != .free || (cells.lookup p.1).isSome) = true := by kernel_rfl) 
    (hs : ∀ x, foldedSetIterable iter (mkE sc L cells q fn cd fr) x = Pure.pure x := by intro _; kernel_rfl) : Ev C A (mkE sc L cells q fn cd fr) (.ListComp elt [⟨.Name x px, iter, ifs, 0⟩] scope pos) ρ σ Q X :=
  Ev.comp hfree hck hk hx cap h hs
/-- f(args): f a def or a class of the text -/
theorem Ev.callR {func : Expr} {args : List Expr} {pos : Pos} {Q : V → Store → Prop} {env : Env}
    (h : Ev C A env func ρ σ (fun fx σ1 => ∃ f, fx = .ref f ∧ keepIn C.K (.ref f) = true ∧ Ags C A env pos args ρ σ1 (fun xs σ2 => CallWP C A (.ref f) xs σ2 Q X) X) X)
    (hev : eval (.Call func args [] pos) env = (do callWith pos (← eval func env) [] (backTo pos (starEach args env)) (backToKw pos (keywordEach [] env))) := by kernel_rfl)
    (he : (backTo pos (starEach args env)).any (·.1) = false := by kernel_rfl) : Ev C A env (.Call func args [] pos) ρ σ Q X := by
  intro s S F
  rw [hev]
  refine wpAny_bind (wpAny_mono (h s S F) ?_ fun _ _ z => z)
  rintro v s1 ⟨x, σ1, ⟨f, rfl, kp, q⟩, r1, S1, e1⟩
  cases r1
  exact wpAny_mono (callWith_mine (first := []) (fx := []) (Kp.ref kp) S1 (F.evo e1) .nil q he) (fun _ _ z => z.after e1) fun _ _ z => z
/-- f(args): f a built-in, or a built-in class -/
theorem Ev.callB {func : Expr} {args : List Expr} {pos : Pos} {Q : V → Store → Prop} {env : Env}
    (h : Ev C A env func ρ σ (fun fx σ1 => ∃ f, (fx = .blt f ∧ Ags C A env pos args ρ σ1 (fun xs σ2 => CallWP C A (.builtin f) xs σ2 Q X) X) ∨ (fx = .typ f ∧ Ags C A env pos args ρ σ1 (fun xs σ2 => CallWP C A (.type f) xs σ2 Q X) X)) X)
    (hev : eval (.Call func args [] pos) env = (do callWith pos (← eval func env) [] (backTo pos (starEach args env)) (backToKw pos (keywordEach [] env))) := by kernel_rfl)
    (he : (backTo pos (starEach args env)).any (·.1) = false := by kernel_rfl) : Ev C A env (.Call func args [] pos) ρ σ Q X := by
  intro s S F
  rw [hev]
  refine wpAny_bind (wpAny_mono (h s S F) ?_ fun _ _ z => z)
  rintro v s1 ⟨x, σ1, ⟨f, (⟨rfl, q⟩ | ⟨rfl, q⟩)⟩, r1, S1, e1⟩
  · cases r1
    exact wpAny_mono (callWith_mine (first := []) (fx := []) Kp.blt S1 (F.evo e1) .nil q he) (fun _ _ z => z.after e1) fun _ _ z => z
  · cases r1
    exact wpAny_mono (callWith_mine (first := []) (fx := []) Kp.typ S1 (F.evo e1) .nil q he) (fun _ _ z => z.after e1) fun _ _ z => z
end
end Mine
namespace Mine
open PySem PySem.W
theorem CmpL.pure {C : Cx} {A : Around} {env : Env} {x : Str} {ifs : List Expr} {elt : Expr} {ok : Store → Prop} {ρ : Rho} {R : List V → Store → Prop} {σ : Store} (p : V → Bool) (f : V → V) (hok : ok σ) :
    ∀ (ys out : List V), (∀ y ∈ ys, ∀ Q : Bool → Store → Prop, Q (p y) σ → Ifs C A env ifs (ρ.put x y) σ Q (fun _ _ => False)) → (∀ y ∈ ys, p y = true → ∀ Q : V → Store → Prop, Q (f y) σ → Ev C A env elt (ρ.put x y) σ Q (fun _ _ => False)) →
    out.length + ys.length ≤ sizeLine → R (out ++ (ys.filter p).map f) σ → CmpL C A env x ifs elt ok ρ R ys out σ
  | [], out, _, _, _, h => by simpa [CmpL] using h
  | y :: ys, out, h1, h2, hz, h => by
    unfold CmpL
    refine h1 y (.head _) _ ?_
    simp only [List.length_cons] at hz
    cases q : p y with
    | true =>
      simp only [if_true]
      refine h2 y (.head _) q _ ⟨by omega, hok, ?_⟩
      refine CmpL.pure p f hok ys (out ++ [f y]) (fun z hz => h1 z (.tail _ hz)) (fun z hz => h2 z (.tail _ hz)) (by simp; omega) ?_
      simpa [List.filter_cons, q] using h
    | false =>
      simp only [Bool.false_eq_true, if_false]
      refine ⟨hok, CmpL.pure p f hok ys out (fun z hz => h1 z (.tail _ hz)) (fun z hz => h2 z (.tail _ hz)) (by omega) ?_⟩
      simpa [List.filter_cons, q] using h
theorem Ifs.nil {C : Cx} {A : Around} {env : Env} {ρ : Rho} {σ : Store} {X : XP} {Q : Bool → Store → Prop} (h : Q true σ) : Ifs C A env [] ρ σ Q X := h
end Mine

/- arities -/
namespace Mine
open PySem PySem.W PySem.SeqAt PyProof.Rows
section
variable {C : Cx} {A : Around} {σ : Store} {X : XP}
theorem CallWP.def0 {f : Addr} {name qual : Str} {params : Arguments} {body : List Stmt} {scope : Scope} {dV kV doc pm cdv ct oc : Value} {an od : Option Addr} {osl : Array (Option Value)} {Q : V → Store → Prop}
    (ho : C.K.lookup f = some ⟨oc, od, .func (fnOf name qual params body scope dV kV doc pm an cdv ct), osl⟩) (hcd : codeIn C.K cdv qual = true) (hroom : A.depth < recursionLimit)
    (hbind : bindArgs (fnOf name qual params body scope dV kV doc pm an cdv ct) ⟨[], []⟩ = pure []) (nd : ([] : List Str).Nodup)
    (hkind : (([] : List Str).all fun y => scope.names.lookup y == some .local || scope.names.lookup y == some .cell) = true) (hsc : scopeOk scope = true) (hco : scope.isCoroutine = false) (hgen : scope.isGenerator = false) (hk : scope.kind = .function)
    (h : ∀ L A', A'.handled = A.handled → A'.depth = A.depth + 1 → A'.units = A.units + 3 → Exs C A' (mkE scope L (cellsFrom (L + 1) scope.names []) (qual ++ ".<locals>.") (some f) cdv (some L)) body [] σ (fun g _ σ' => Q g.val σ') (fun _ _ => False)) :
    CallWP C A (.ref f) [] σ Q X :=
  CallWP.def [] (args := []) ho hcd hroom (fun vals hl => by match vals, hl with | [], _ => exact hbind ) nd hkind hsc hco hgen hk h
theorem CallWP.def1 (x1 : Str) {f : Addr} {name qual : Str} {params : Arguments} {body : List Stmt} {scope : Scope} {dV kV doc pm cdv ct oc : Value} {an od : Option Addr} {osl : Array (Option Value)} {v1 : V} {Q : V → Store → Prop}
    (ho : C.K.lookup f = some ⟨oc, od, .func (fnOf name qual params body scope dV kV doc pm an cdv ct), osl⟩) (hcd : codeIn C.K cdv qual = true) (hroom : A.depth < recursionLimit)
    (hbind : ∀ u1 : Value, bindArgs (fnOf name qual params body scope dV kV doc pm an cdv ct) ⟨[u1], []⟩ = pure [(x1, u1)]) (nd : ([x1] : List Str).Nodup)
    (hkind : (([x1] : List Str).all fun y => scope.names.lookup y == some .local || scope.names.lookup y == some .cell) = true) (hsc : scopeOk scope = true) (hco : scope.isCoroutine = false) (hgen : scope.isGenerator = false) (hk : scope.kind = .function)
    (h : ∀ L A', A'.handled = A.handled → A'.depth = A.depth + 1 → A'.units = A.units + 3 → Exs C A' (mkE scope L (cellsFrom (L + 1) scope.names []) (qual ++ ".<locals>.") (some f) cdv (some L)) body [(x1, v1)] σ (fun g _ σ' => Q g.val σ') (fun _ _ => False)) :
    CallWP C A (.ref f) [v1] σ Q X :=
  CallWP.def [x1] (args := [v1]) ho hcd hroom (fun vals hl => by match vals, hl with | [u1], _ => exact hbind u1) nd hkind hsc hco hgen hk h
theorem CallWP.def2 (x1 x2 : Str) {f : Addr} {name qual : Str} {params : Arguments} {body : List Stmt} {scope : Scope} {dV kV doc pm cdv ct oc : Value} {an od : Option Addr} {osl : Array (Option Value)} {v1 v2 : V} {Q : V → Store → Prop}
    (ho : C.K.lookup f = some ⟨oc, od, .func (fnOf name qual params body scope dV kV doc pm an cdv ct), osl⟩) (hcd : codeIn C.K cdv qual = true) (hroom : A.depth < recursionLimit)
    (hbind : ∀ u1 u2 : Value, bindArgs (fnOf name qual params body scope dV kV doc pm an cdv ct) ⟨[u1, u2], []⟩ = pure [(x1, u1), (x2, u2)]) (nd : ([x1, x2] : List Str).Nodup)
    (hkind : (([x1, x2] : List Str).all fun y => scope.names.lookup y == some .local || scope.names.lookup y == some .cell) = true) (hsc : scopeOk scope = true) (hco : scope.isCoroutine = false) (hgen : scope.isGenerator = false) (hk : scope.kind = .function)
    (h : ∀ L A', A'.handled = A.handled → A'.depth = A.depth + 1 → A'.units = A.units + 3 → Exs C A' (mkE scope L (cellsFrom (L + 1) scope.names []) (qual ++ ".<locals>.") (some f) cdv (some L)) body [(x1, v1), (x2, v2)] σ (fun g _ σ' => Q g.val σ') (fun _ _ => False)) :
    CallWP C A (.ref f) [v1, v2] σ Q X :=
  CallWP.def [x1, x2] (args := [v1, v2]) ho hcd hroom (fun vals hl => by match vals, hl with | [u1, u2], _ => exact hbind u1 u2) nd hkind hsc hco hgen hk h
end
end Mine

set_option autoImplicit false
set_option linter.unusedVariables false
namespace Mine
open PySem PySem.W PySem.SeqAt PyProof.Rows

theorem Rho.gp_hit {x : Str} {v : V} {r : Rho} : Rho.get (Rho.put r x v) x = some v := by rw [Rho.get_put]; simp
theorem Rho.gp_miss {x y : Str} {v : V} {u : Option V} {r : Rho} (h : y ≠ x) (k : Rho.get r y = u) : Rho.get (Rho.put r x v) y = u := by rw [Rho.get_put, if_neg h, k]

section
variable {C : Cx} {A : Around} {env : Env} {ρ : Rho} {σ : Store} {X : XP} {s : Shared}

/- {"a": .., "b": ..} -/
inductive KVR (h : Heap) : List (Value × Value) → List (Str × V) → Prop
  | nil : KVR h [] []
  | cons {k : Str} {t : Tok} {v : Value} {x : V} {r : List (Value × Value)} {r' : List (Str × V)} : VR h v x → KVR h r r' → KVR h ((.str k t, v) :: r) ((k, x) :: r')
def Prs (C : Cx) (A : Around) (env : Env) (pos : Pos) (ks : List (Option Expr)) (vs : List Expr) (ρ : Rho) (σ : Store) (Q : List (Str × V) → Store → Prop) (X : XP) : Prop :=
  ∀ s, St C σ s → Fm C σ s.heap env ρ → wpAny C.M A (evalPairs (pairTrees ks vs env pos)) (fun r s' => ∃ xs σ', Q xs σ' ∧ KVR s'.heap r xs ∧ St C σ' s' ∧ Evo σ s.heap σ' s'.heap) X s
/- pop() -/
/- all(), any() over a list of truths -/
theorem kept_it {h' : Heap} {o : Obj} (hk : ∀ b x, b ∉ [s.heap.objs.size] → (s.heap.push o).get? b = some x → h'.get? b = some x) : ∀ b x, s.heap.get? b = some x → h'.get? b = some x :=
  fun b x e => hk b x (fun hm => by rw [List.mem_singleton.mp hm] at e; exact Nat.lt_irrefl _ (Heap.lt_size e)) (Heap.get?_push_of_some _ e)
theorem bools_get {h : Heap} {vs : List Value} {bs : List Bool} (r : VRs h vs (bs.map V.bool)) {i : Nat} {v : Value} (e : vs[i]? = some v) : ∃ b, bs[i]? = some b ∧ v = .bool b := by
  have hl := r.length
  have : i < vs.length := (List.getElem?_eq_some_iff.mp e).1
  have hb : i < bs.length := by simpa [hl] using this
  obtain ⟨u, hu, ru⟩ := r.get (show (bs.map V.bool)[i]? = some (V.bool bs[i]) by simp [hb])
  rw [hu] at e; cases e
  cases ru
  exact ⟨bs[i], by simp [hb], rfl⟩
theorem CallWP.all {l : Addr} {bs : List Bool} {Q : V → Store → Prop} (hh : A.handled = none) (hl : LstAt C σ l (bs.map V.bool)) (h : Q (.bool (bs.all id)) σ) : CallWP C A (.builtin "all") [.ref l] σ Q X := by
  intro s vs S r
  cases r with
  | cons r1 r2 =>
  cases r2; cases r1
  obtain ⟨items, il, rl⟩ := hl.raw S
  have el := rl.length
  simp only [Array.length_toList, List.length_map] at el
  have hlt : l < s.heap.objs.size := by obtain ⟨_, e, _⟩ := il; exact Heap.lt_size e
  refine call_all_walk (wpAny_pyIter_list il ?_)
  refine ⟨s.heap.objs.size, [s.heap.objs.size, l], [s.heap.objs.size], items.size, _, _, fun i => (bs[i]?).getD true, rfl, Walks.list (A := A.in1) hh _ l (Nat.ne_of_lt hlt) items,
    ⟨⟨_, Heap.get?_push_size _ rfl, rfl, rfl⟩, il.push _⟩, fun i v s' Q' E' hP hQ => ?_, fun h' tk hk => ?_⟩
  · obtain ⟨b, e, rfl⟩ := bools_get rl (by simpa using hP)
    simp only [e, Option.getD_some] at hQ
    exact wpAny_truthy_bool hQ
  · have e : ((List.range items.size).all fun i => (bs[i]?).getD true) = bs.all id := by
      rw [el]; exact PyProof.Rows.LSm.range_all bs
    rw [e]
    exact ⟨_, σ, h, .bool _, S.ext (kept_it hk), .ext (kept_it hk)⟩
theorem small_le {n : Nat} (h : Nat.ble n sizeLine = true) : n ≤ sizeLine := Nat.le_of_ble_eq_true h
theorem Szs.mk {xs : List V} {P : Prop} (h : xs.length ≤ sizeLine) (k : P) : xs.length ≤ sizeLine ∧ P := ⟨h, k⟩
theorem Br.t {b : Bool} {p q : Prop} (hb : b = true) (h : p) : if b = true then p else q := by rw [if_pos hb]; exact h
theorem Br.f {b : Bool} {p q : Prop} (hb : b = false) (h : q) : if b = true then p else q := by rw [if_neg (by simp [hb])]; exact h
end
end Mine

set_option autoImplicit false
set_option linter.unusedVariables false
namespace Mine
open PySem PySem.W PySem.SeqAt PyProof.Rows

/- stores -/
def Grow (σ σ' : Store) : Prop := ∀ b o, σ b = some o → σ' b = some o
theorem Grow.rfl' {σ : Store} : Grow σ σ := fun _ _ e => e
theorem Store.hit {σ : Store} {a : Addr} {o : O} : (σ.upd a o) a = some o := by simp [Store.upd]
theorem Store.miss {σ : Store} {a b : Addr} {o : O} {r : Option O} (h : b ≠ a) (k : σ b = r) : (σ.upd a o) b = r := by simp [Store.upd, h, k]
theorem Store.at_fresh {σ : Store} {a b : Addr} {o o' : O} (h : σ a = none) (k : σ b = some o') : (σ.upd a o) b = some o' := Store.miss (fun e => by rw [e, h] at k; cases k) k
theorem Grow.fresh {σ σ' : Store} {a : Addr} {o : O} (g : Grow σ σ') (h : σ' a = none) : Grow σ (σ'.upd a o) := fun b o' e => Store.at_fresh h (g b o' e)
section
variable {C : Cx} {A : Around} {env : Env} {ρ : Rho} {σ : Store} {X : XP} {s : Shared}
theorem TyGo.mk {x : V} {T : String} {P : Prop} (h : TyV C σ x T) (k : P) : TyV C σ x T ∧ P := ⟨h, k⟩
/-- what a loop's body owes -/
def LpQ (ok : Store → Prop) (J : Rho → Store → Prop) (Q : FV → Rho → Store → Prop) (g : FV) (ρ : Rho) (σ : Store) : Prop :=
  match g with
  | .next | .cont => ok σ ∧ J ρ σ
  | .brk => Q .next ρ σ
  | .ret v => Q (.ret v) ρ σ
end
end Mine

set_option autoImplicit false
set_option linter.unusedVariables false
namespace Mine
open PySem PySem.W PySem.SeqAt PyProof.Rows

/- texts: their length and their code points -/
theorem joinOk_of {ts : List Str} {B : Nat} (hB : ∀ y ∈ ts, y.length ≤ B) (h : ts.length * B ≤ 16777216) : JoinOk Str.empty ts = true := by
  unfold JoinOk
  rw [StrLaws.joinFits hB (by have : Str.empty.length = 0 := rfl; rw [this]; omega)]; rfl
end Mine

namespace Mine
open PySem PySem.W PySem.SeqAt PyProof.Rows
section
variable {C : Cx} {A : Around} {σ : Store} {X : XP}
theorem CallWP.range1 {n : Int} {Q : V → Store → Prop} (h : Q (.rng 0 n) σ) : CallWP C A (.type "range") [.int n] σ Q X := by
  intro s vs S r
  cases r with
  | cons r1 r2 =>
  cases r2; cases r1
  exact call_range_1 ⟨.rng 0 n, σ, h, .rng (IsRange.new _ _ _ _ _ _ _), S.push, .push⟩
theorem intMul_l {a b : Int} (h1 : -(2 ^ 64) < a) (h2 : a < 2 ^ 64) : IntMulOk a b := IntMulOk.of_left (intBits_le_64 h1 h2)
end
end Mine

set_option autoImplicit false
set_option linter.unusedVariables false
namespace Mine
open PySem PySem.W PySem.SeqAt PyProof.Rows
section
variable {C : Cx} {A : Around} {σ : Store} {X : XP}
/- plain data -/
theorem isi_t {x : V} {t : Ty} {U : String} {Q : V → Store → Prop} (ht : HasTy C σ x t) (hU : (U = "int" ∨ U = "bool" ∨ U = "str" ∨ U = "list" ∨ U = "tuple")) {b : Bool} (hb : isiB t U = b) (h : Q (.bool b) σ) : CallWP C A (.builtin "isinstance") [x, .typ U] σ Q X :=
  CallWP.isi ht hU (by rw [hb]; exact h)
end
end Mine

set_option autoImplicit false
set_option linter.unusedVariables false
namespace Mine
open PySem PySem.W PySem.SeqAt PyProof.Rows
section
variable {C : Cx} {A : Around} {env : Env} {ρ : Rho} {σ : Store} {X : XP} {s : Shared}
/- a, b, c = x, y, z -/
def AsgN (C : Cx) (A : Around) (env : Env) (ns : List Str) (xs : List V) (ρ : Rho) (σ : Store) (Q : Rho → Store → Prop) (X : XP) : Prop :=
  ∀ s vs, St C σ s → Fm C σ s.heap env ρ → VRs s.heap vs xs → wpAny C.M A (assignInOrder (ns.map fun n => bindName env n) vs) (fun _ s' => ∃ ρ' σ', Q ρ' σ' ∧ St C σ' s' ∧ Fm C σ' s'.heap env ρ' ∧ EvoF env σ s.heap σ' s'.heap) X s
end
end Mine

namespace Mine
open PySem PySem.W
section
variable {C : Cx} {A : Around} {env : Env} {ρ : Rho} {σ : Store} {X : XP}
end
end Mine

set_option autoImplicit false
set_option linter.unusedVariables false
namespace Mine
open PySem PySem.W
/- which kind of goal stands: one quick look each -/
section
variable {C : Cx} {A : Around} {env : Env} {ρ : Rho} {σ : Store} {X : XP}
theorem is.ev {e : Expr} {Q : V → Store → Prop} (h : Ev C A env e ρ σ Q X) : Ev C A env e ρ σ Q X := h
theorem is.tst {e : Expr} {Q : Bool → Store → Prop} (h : Tst C A env e ρ σ Q X) : Tst C A env e ρ σ Q X := h
theorem is.ex {e : Stmt} {Q : FV → Rho → Store → Prop} (h : Ex C A env e ρ σ Q X) : Ex C A env e ρ σ Q X := h
theorem is.exs {e : List Stmt} {Q : FV → Rho → Store → Prop} (h : Exs C A env e ρ σ Q X) : Exs C A env e ρ σ Q X := h
theorem is.thn {e : List Stmt} {Q : FV → Rho → Store → Prop} {g : FV} (h : Then C A env e Q X g ρ σ) : Then C A env e Q X g ρ σ := h
theorem is.asg {e : Expr} {x : V} {Q : Rho → Store → Prop} (h : Asg C A env e x ρ σ Q X) : Asg C A env e x ρ σ Q X := h
theorem is.cmp {o : CmpOp} {x y : V} {Q : V → Store → Prop} (h : CmpWP C A o x y σ Q X) : CmpWP C A o x y σ Q X := h
theorem is.bin {o : Operator} {x y : V} {Q : V → Store → Prop} (h : BinWP C A o x y σ Q X) : BinWP C A o x y σ Q X := h
theorem is.call {f : Value} {xs : List V} {Q : V → Store → Prop} (h : CallWP C A f xs σ Q X) : CallWP C A f xs σ Q X := h
theorem is.tru {x : V} {Q : Bool → Store → Prop} (h : TruWP C A x σ Q X) : TruWP C A x σ Q X := h
theorem is.ags {pos : Pos} {es : List Expr} {Q : List V → Store → Prop} (h : Ags C A env pos es ρ σ Q X) : Ags C A env pos es ρ σ Q X := h
end
end Mine

set_option autoImplicit false
set_option linter.unusedVariables false
namespace Mine
open PySem PySem.W PyProof.Rows

/- the sort's questions answered by a weak order: its answer is sorted and stable -/
structure SWO (lt : Nat → Nat → Bool) : Prop where
  irr : ∀ i, lt i i = false
  tr : ∀ i j k, lt i j = true → lt j k = true → lt i k = true
  nt : ∀ i j k, lt i j = false → lt j k = false → lt i k = false
def slt (lt : Nat → Nat → Bool) (i j : Nat) : Prop := lt i j = true ∨ (lt j i = false ∧ i < j)
section
variable {lt : Nat → Nat → Bool}
def Srt (lt : Nat → Nat → Bool) (p : Nat → Nat) (n : Nat) : Prop := ∀ i j, i < j → j < n → slt lt (p i) (p j)
structure Idn (p : Nat → Nat) (n N : Nat) : Prop where
  rest : ∀ k, n ≤ k → k < N → p k = k
  low : ∀ k, k < n → p k < n
abbrev fn (P : Array Nat) (k : Nat) : Nat := P.getD k 0
variable {cmp : Nat → Nat → (Bool → Shared → Prop) → Shared → Prop} {s : Shared} {N : Nat}
/-- P: the array's state -/
structure PA (P : Array Nat) (N : Nat) : Prop where
  sz : P.size = N
  pm : P.toList.Perm (List.range N)
/-- falling so far, the last run of equals apart -/
structure Dsc (lt : Nat → Nat → Bool) (p : Nat → Nat) (b n : Nat) : Prop where
  i1 : ∀ i j, i < j → j < b → slt lt (p j) (p i)
  i2 : ∀ i j, i < b → b ≤ j → j < n → lt (p j) (p i) = true
  i3 : ∀ i j, b ≤ i → i < j → j < n → p i < p j ∧ lt (p i) (p j) = false ∧ lt (p j) (p i) = false
end
end Mine

set_option autoImplicit false
set_option linter.unusedVariables false
set_option maxRecDepth 100000
namespace Mine
open PySem PySem.W PySem.SeqAt PyProof.Rows

/- pairs of numbers in their order -/
def pv (p : Int × Int) : V := .tup [.int p.1, .int p.2]
def lexlt (p q : Int × Int) : Bool := decide (p.1 < q.1) || (p.1 == q.1 && decide (p.2 < q.2))
section
variable {prog : Program} {w : World} {A : Around} {E : Value → Shared → Prop} {s : Shared}
end
def PairAt (h : Heap) (v : Value) (p : Int × Int) : Prop := ∃ a t u n, v = .ref a ∧ h.get? a = some (tupObj #[.int p.1 t, .int p.2 u] n)
section
variable {prog : Program} {w : World} {A : Around} {E : Value → Shared → Prop} {s : Shared}
end
/- sorted() -/
section
variable {prog : Program} {w : World} {A : Around} {E : Value → Shared → Prop} {s : Shared}
end
section
variable {C : Cx} {A : Around} {env : Env} {ρ : Rho} {σ : Store} {X : XP} {s : Shared}
end
section
variable {C : Cx} {A : Around} {env : Env} {ρ : Rho} {σ : Store} {X : XP} {s : Shared}
/- attributes of own objects, step by step -/
def AttrWP (C : Cx) (x : V) (name : Str) (σ1 : Store) (Q : V → Store → Prop) : Prop := ∃ a c dx es y attr, x = .ref a ∧ σ1 a = some (.inst c dx) ∧ σ1 dx = some (.sd es) ∧ sget es name = some y ∧ plainGet C.K c name = true ∧ hasDictIn C.K c = true ∧
      findIn C.K (.ref c) name = some attr ∧ noGet C.K attr = true ∧ (∀ i, y ≠ .blt i) ∧ Q y σ1
def MethWP (C : Cx) (A : Around) (env : Env) (pos : Pos) (args : List Expr) (ρ : Rho) (x : V) (name : Str) (σ1 : Store) (Q : V → Store → Prop) (X : XP) : Prop := ∃ a c dx es f, x = .ref a ∧ σ1 a = some (.inst c dx) ∧ σ1 dx = some (.sd es) ∧ sget es name = none ∧ plainGet C.K c name = true ∧
      findIn C.K (.ref c) name = some (some (.ref f)) ∧ isFn C.K (.ref f) = true ∧ keepIn C.K (.ref f) = true ∧ Ags C A env pos args ρ σ1 (fun xs σ2 => CallWP C A (.ref f) (.ref a :: xs) σ2 Q X) X
def SAttWP (C : Cx) (x : V) (name : Str) (y : V) (σ1 : Store) (Q : Store → Prop) : Prop := ∃ a c dx es, x = .ref a ∧ σ1 a = some (.inst c dx) ∧ σ1 dx = some (.sd es) ∧ es.length ≤ 1000 ∧
      findIn C.K (.ref c) "__setattr__" = some (some (.builtin "object.__setattr__")) ∧ plainOver C.K c = true ∧ takerIn C.K c name = some none ∧ hasDictIn C.K c = true ∧ Q (σ1.upd dx (.sd (sput es name y)))
/- making an own object -/
def CodC (C : Cx) (A : Around) (f : Value) (args : List V) (σ : Store) (Q : V → Store → Prop) : Prop :=
  ∀ s vs, St C σ s → VRs s.heap vs args → codeAny C.M A (.call f ⟨vs, []⟩) (fun r s' => match r with | .ok (.ret v) => EP C σ s.heap Q v s' | _ => False) s
/- slices of lists -/
theorem pick_range {α : Type} (xs : List α) : ∀ (k n : Nat), k + n ≤ xs.length → ((List.range n).map fun i => k + i).filterMap (xs[·]?) = (xs.drop k).take n
  | k, 0, _ => by simp
  | k, n + 1, h => by
    have hk : k < xs.length := by omega
    have ih := pick_range xs (k + 1) n (by omega)
    rw [List.range_succ_eq_map, List.map_cons, List.map_map, List.filterMap_cons]
    have e0 : xs[k + 0]? = some xs[k] := by simp [hk]
    rw [e0]
    have e1 : (List.range n).map ((fun i => k + i) ∘ Nat.succ) = (List.range n).map fun i => k + 1 + i := List.map_congr_left fun i _ => by simp only [Function.comp]; omega
    rw [e1, ih, List.drop_eq_getElem_cons hk, List.take_succ_cons]

/- dict.pop(key) -/
def idel (es : List (Int × V)) (k : Int) : List (Int × V) := es.filter fun p => !decide (p.1 = k)
end
end Mine

set_option autoImplicit false
set_option linter.unusedVariables false
set_option maxRecDepth 100000
set_option maxHeartbeats 4000000
namespace Mine
open PySem PySem.W PySem.SeqAt PyProof.Rows PySem.Calls

def CodeAt (h : Heap) (c : Addr) (q : Str) : Prop := ∃ o vs t, h.get? c = some o ∧ o.cls = .type "code" ∧ o.data = .fields vs ∧ vs[1]? = some (.str q t)
def LamAt (h : Heap) (f : Addr) (params : Arguments) (body : Expr) (scope : Scope) (clos : List (Str × Addr)) (q : Str) : Prop :=
  ∃ pm c' ctv, h.get? f = some (kla_obj "<lambda>" q params body scope clos pm c' ctv) ∧ CodeAt h c' q
def BMod (C : Cx) : Prop := ∃ bm ob, C.mg "__builtins__" = some (.ref bm) ∧ bm ≠ builtinsNs ∧ C.h₀.get? bm = some ob ∧ ob.cls = .type "module" ∧ ob.dict = some builtinsNs ∧ ob.data = .plain

section
variable {C : Cx} {A : Around} {env : Env} {ρ : Rho} {σ : Store} {X : XP} {s : Shared}
def lamOk (scope : Scope) : Bool := scope.names.all fun p => p.2 != .cell && (p.2 != .free || scope.names.lookup p.1 == some .free)
end
end Mine

set_option autoImplicit false
set_option linter.unusedVariables false
set_option maxRecDepth 100000
set_option maxHeartbeats 4000000
namespace Mine
open PySem PySem.W PySem.SeqAt PyProof.Rows PySem.Calls
section
variable {C : Cx} {A : Around} {ρ : Rho} {σ : Store} {X : XP} {s : Shared}
end
end Mine

set_option autoImplicit false
set_option linter.unusedVariables false
set_option maxRecDepth 100000
namespace Mine
open PySem PySem.W PySem.SeqAt PyProof.Rows
section
variable {C : Cx} {A : Around} {env : Env} {ρ : Rho} {σ : Store} {X : XP} {s : Shared}
theorem Exs.cut {st : Stmt} {ss : List Stmt} {Q : FV → Rho → Store → Prop} (P : Rho → Store → Prop) (h1 : Ex C A env st ρ σ (fun g ρ' σ' => g = .next ∧ P ρ' σ') X) (h2 : ∀ ρ' σ', P ρ' σ' → Exs C A env ss ρ' σ' Q X) : Exs C A env (st :: ss) ρ σ Q X :=
  Exs.cons (h1.mono fun g ρ' σ' ⟨e, p⟩ => by subst e; exact h2 ρ' σ' p)
/- slices: of a list, of a text -/
def SliceWP (C : Cx) (o : V) (a b : Option Int) (σ3 : Store) (Q : V → Store → Prop) : Prop :=
  (∃ l xs, o = .ref l ∧ LstAt C σ3 l xs ∧ xs.length ≤ sizeLine ∧ ∀ c, σ3 c = Option.none → Q (.ref c) (σ3.upd c (.list (pySlice xs a b)))) ∨
  (∃ x, o = .str x ∧ x.length ≤ sizeLine ∧ Q (.str (Txt.slice x a b)) σ3)
theorem SliceWP.str {x : Str} {a b : Option Int} {Q : V → Store → Prop} (hz : x.length ≤ sizeLine) (h : Q (.str (Txt.slice x a b)) σ) : SliceWP C (.str x) a b σ Q := .inr ⟨x, rfl, hz, h⟩
theorem IsPart.opt {v : Value} {k : Option Int} (p : IsPart v k) : ∃ l : Option (Int × Tok), v = partValue l ∧ l.map (·.1) = k := by
  cases p with
  | none => exact ⟨none, rfl, rfl⟩
  | int i t => exact ⟨some (i, t), rfl, rfl⟩
theorem Ev.slice {value : Expr} {lo hi : Option Expr} {p pos : Pos} {Q : V → Store → Prop}
    (h : Ev C A env value ρ σ (fun o σ1 => Prt C A env lo ρ σ1 (fun a σ2 => Prt C A env hi ρ σ2 (fun b σ3 => SliceWP C o a b σ3 Q) X) X) X) : Ev C A env (.Subscript value (.Slice lo hi Option.none p) pos) ρ σ Q X := by
  intro s S F
  rw [eval_Subscript]
  refine wpAny_bind (wpAny_mono (h s S F) ?_ fun _ _ z => z)
  rintro o s1 ⟨x, σ1, h1, r1, S1, e1⟩
  refine wpAny_bind (wpAny_holding ?_)
  rw [arm_eval_Slice]
  refine wpAny_bind (wpAny_mono (h1.run S1 (F.evo e1)) ?_ fun _ _ z => z)
  rintro vl s2 ⟨a, σ2, h2, p2, S2, e2⟩
  refine wpAny_bind (wpAny_holding (wpAny_mono (h2.run S2 ((F.evo e1).evo e2)) ?_ fun _ _ z => z))
  rintro vu s3 ⟨b, σ3, (⟨l, xs, rfl, hl, hz, q⟩ | ⟨x, rfl, hz, q⟩), p3, S3, e3⟩
  · cases r1
    refine wpAny_bind (wpAny_holding (wpAny_pure (wpAny_newObj_type ?_)))
    have S4 : St C σ3 { s3 with heap := s3.heap.push { cls := .type "slice", data := .fields #[vl, vu, .none] } } := S3.push
    obtain ⟨items, il, rl⟩ := hl.raw S4
    have e := rl.length
    simp only [Array.length_toList] at e
    refine wpAny_bind (wpAny_standAt (getitem_mine (.list il) (wpAny_getItem_list_slice (lo := a) (hi := b) (st := none) il ⟨_, Heap.get?_push_size _ rfl, rfl, rfl⟩ p2 p3 .none (by simp) ?_ (by rw [e]; exact hz))))
    obtain ⟨S5, e5⟩ := S4.new (t := s3.toks) (rep_list_push (C := C) (vs := (slicePick items a b none).toList) (xs := pySlice xs a b) (by rw [slicePick_list]; unfold pySlice; simp only [Array.length_toList, e]; exact rl.pick _))
    refine ⟨.ref _, _, q _ S4.fresh, .ref _, by simpa using S5, ?_⟩
    have := (((e1.trans e2).trans e3).trans .push).trans e5
    simpa using this
  · cases r1
    refine wpAny_bind (wpAny_holding (wpAny_pure (wpAny_newObj_type ?_)))
    obtain ⟨l, rfl, rfl⟩ := IsPart.opt p2
    obtain ⟨u, rfl, rfl⟩ := IsPart.opt p3
    refine wpAny_bind (wpAny_standAt (getitem_mine .str (wpAny_getItem_str_slice (l := l) (u := u) (st := none) ⟨_, Heap.get?_push_size _ rfl, rfl, rfl⟩ rfl (post_val_or_str ⟨Nat.le_trans (Txt.slice_le x _ _) hz, fun t' k => ?_⟩))))
    exact ⟨_, σ3, q, .str _ _, (S3.push).toks _, ((e1.trans e2).trans e3).trans .push⟩

end

theorem slice_cps (x : Str) (l u : Option Int) (a n : Nat) (h : a + n ≤ x.length) (e : Builtin.Str.strSliceIndices l u 1 x.length = (List.range n).map fun i => a + i) : (Txt.slice x l u).cps.toList = (x.cps.toList.drop a).take n := by
  have hx : x.cps.toList.length = x.length := by simp [Str.length]
  unfold Txt.slice
  rw [e]
  split
  · rename_i z
    simp only [List.length_map, List.length_range, beq_self_eq_true, Bool.true_and, beq_iff_eq] at z
    have : a = 0 := by omega
    subst this
    rw [List.drop_zero, List.take_of_length_le (by omega)]
  · have e2 : (List.filterMap (fun i => x.cps[i]?) ((List.range n).map fun i => a + i)) = ((List.range n).map fun i => a + i).filterMap (x.cps.toList[·]?) := by simp
    show (List.filterMap (fun i => x.cps[i]?) ((List.range n).map fun i => a + i)).toArray.toList = _
    rw [e2, pick_range _ a n (by omega)]
theorem slice_upto (x : Str) (k : Nat) (hk : k ≤ x.length) : (Txt.slice x none (some (k : Int))).cps.toList = x.cps.toList.take k := by
  have e : Builtin.Str.strSliceIndices none (some (k : Int)) 1 x.length = (List.range k).map fun i => 0 + i := by
    unfold Builtin.Str.strSliceIndices
    have h1 : ¬ ((k : Int) < 0) := by omega
    have h2 : max 0 (min (k : Int) (x.length : Int)) = ((k : Nat) : Int) := by omega
    simp only [h1, if_false, show (1 : Int) > 0 by decide, if_true, h2]
    have := sliceRange_one 0 k
    simpa using this
  rw [slice_cps x none (some (k : Int)) 0 k (by omega) e, List.drop_zero]
theorem slice_from (x : Str) (k : Nat) (hk : k ≤ x.length) : (Txt.slice x (some (k : Int)) none).cps.toList = x.cps.toList.drop k := by
  have hx : x.cps.toList.length = x.length := by simp [Str.length]
  have e : Builtin.Str.strSliceIndices (some (k : Int)) none 1 x.length = (List.range (x.length - k)).map fun i => k + i := by
    unfold Builtin.Str.strSliceIndices
    have h1 : ¬ ((k : Int) < 0) := by omega
    have h2 : max 0 (min (k : Int) (x.length : Int)) = ((k : Nat) : Int) := by omega
    simp only [h1, if_false, show (1 : Int) > 0 by decide, if_true, h2]
    exact sliceRange_one k x.length
  rw [slice_cps x (some (k : Int)) none k (x.length - k) (by omega) e, List.take_of_length_le (by simp [hx])]
theorem cps_append (x y : Str) : (x ++ y).cps.toList = x.cps.toList ++ y.cps.toList := by
  show (x.cps ++ y.cps).toList = _
  simp
end Mine

set_option autoImplicit false
set_option linter.unusedVariables false
set_option maxRecDepth 100000
namespace Mine
open PySem PySem.W PySem.SeqAt PyProof.Rows

/-- frames that stand -/
def Frs (C : Cx) (σ : Store) (h : Heap) (l : List Env) : Prop := ∀ env ∈ l, env.scope.kind ≠ .module ∧ ∃ L m, env.frame = some L ∧ h.Ns L m ∧ σ L = none ∧ C.n₀ ≤ L
/-- addresses laid aside: frames -/
def Hid (C : Cx) (σ : Store) (h : Heap) (fs : List Addr) : Prop := ∀ b ∈ fs, σ b = none ∧ C.n₀ ≤ b ∧ ∃ m, h.Ns b m
section
variable {C : Cx} {A : Around} {env : Env} {ρ : Rho} {σ : Store} {X : XP} {s : Shared} {l : List Env}

theorem Evo.off {σ' : Store} {h h' : Heap} (e : Evo σ h σ' h') {b : Addr} {o : Obj} (hb : h.get? b = some o) (hn : σ b = none) : σ' b = none := by
  cases q : σ' b with
  | none => rfl
  | some o2 =>
    rcases e.dom b o2 q with ⟨o', e'⟩ | e'
    · rw [hn] at e'; cases e'
    · rw [hb] at e'; cases e'
theorem Frs.evo {σ' : Store} {h h' : Heap} (x : Frs C σ h l) (e : Evo σ h σ' h') : Frs C σ' h' l := by
  intro env he
  obtain ⟨hk, L, m, hf, hm, hn, hl⟩ := x env he
  have hm' := ns_kept hm fun o q => e.keep _ _ q hn
  obtain ⟨o, es, ep, ho, rest⟩ := hm
  exact ⟨hk, L, m, hf, hm', e.off ho hn, hl⟩
theorem Fm.frs {h : Heap} (F : Fm C σ h env ρ) (hf : env.frame = some env.locals) (x : Frs C σ h l) : Frs C σ h (env :: l) := by
  intro e he
  rcases List.mem_cons.mp he with rfl | he
  · obtain ⟨m, hm, _⟩ := F.loc
    exact ⟨by rw [F.fn]; decide, _, m, hf, hm, F.locs, F.abv⟩
  · exact x e he
theorem Frs.nil {h : Heap} : Frs C σ h [] := fun _ he => (nomatch he)
theorem Frs.hid {h : Heap} (x : Frs C σ h l) : Hid C σ h (l.filterMap (·.frame)) := by
  intro b hb
  obtain ⟨env, he, hf⟩ := List.mem_filterMap.mp hb
  obtain ⟨hk, L, m, hf', hm, hn, hl⟩ := x env he
  rw [hf'] at hf; cases hf
  exact ⟨hn, hl, m, hm⟩
theorem Frs.fun {h : Heap} {fs : List Addr} : ∀ {l : List Env}, Frs C σ h l → (∀ b ∈ l.filterMap (·.frame), b ∈ fs) → h.FunFrames (hideAll h fs) l
  | [], _, _ => trivial
  | env :: r, x, k => by
    obtain ⟨hk, L, m, hf, hm, hn, hl⟩ := x env (.head _)
    obtain ⟨o, es, ep, ho, hd, rest⟩ := hm
    refine ⟨hk, ⟨L, o, hf, hideAll_none _ (k L (List.mem_filterMap.mpr ⟨env, .head _, hf⟩)), ho, fun vs q => by rw [hd] at q; cases q⟩, Frs.fun (fun e he => x e (.tail _ he)) fun b hb => k b ?_⟩
    obtain ⟨e, he, hb⟩ := List.mem_filterMap.mp hb
    exact List.mem_filterMap.mpr ⟨e, .tail _ he, hb⟩

theorem settle {h1 h' B : Heap} {fs : List Addr} (S : St C σ { s with heap := h1 }) (H : Hid C σ h1 fs) (cov : ∀ b o, h1.get? b = some o → b ∉ fs → B.get? b = some o) (st : B.StaysIn h') (up : h1.UpToSlots h') (t : Nat) :
    St C σ { s with heap := h', toks := t } ∧ Evo σ h1 σ h' := by
  have key : ∀ b o, h1.get? b = some o → b ∉ fs → h'.get? b = some o := fun b o e n => st b o (cov b o e n)
  have tk : TupKeep h1 h' := fun a o i e => key a o e fun hb => by
    obtain ⟨_, _, m, o', es, ep, ho, hd, _⟩ := H a hb
    rw [e] at ho; cases ho
    exact Imm.notDict hd i
  refine ⟨⟨fun b o e => ?_, fun a o e => ?_, S.above, S.gens, S.os⟩, fun b o e n => ?_, fun b o e => .inl ⟨o, e⟩, fun b o e => ⟨o, e⟩, tk⟩
  · exact key b o (S.base b o e) fun hb => absurd (C.low b o e) (Nat.not_lt.mpr (H b hb).2.1)
  · exact (S.rep a o e).at (fun x hx => key a x hx fun hb => by rw [(H a hb).1] at e; cases e) tk
  · by_cases hb : b ∈ fs
    · obtain ⟨_, _, m, o', es, ep, ho, hd, _⟩ := H b hb
      rw [e] at ho; cases ho
      exact .inr ⟨⟨es, ep, hd⟩, up b o e fun vs q => by rw [hd] at q; cases q⟩
    · exact .inl (key b o e hb)

/-- an own exception on its way -/
def XR (C : Cx) (σ : Store) (h : Heap) (l : List Env) (D : Addr) (v : Value) (s' : Shared) : Prop :=
  ∃ σ1 h1 e B t fs, v = .ref e ∧ St C σ1 { s' with heap := h1 } ∧ Evo σ h σ1 h1 ∧ Hid C σ1 h1 fs ∧ (∀ b o, h1.get? b = some o → b ∉ fs → B.get? b = some o) ∧ h1.get? e = none ∧ h1.UpToSlots s'.heap ∧ Heap.FlyingW B l e (.ref D) (.ref t) s'.heap
theorem XR.after {σ1 : Store} {h h1 : Heap} {D : Addr} {v : Value} {s' : Shared} (x : XR C σ1 h1 l D v s') (k : Evo σ h σ1 h1) : XR C σ h l D v s' :=
  let ⟨σ2, h2, e, B, t, fs, a, b, c, d⟩ := x; ⟨σ2, h2, e, B, t, fs, a, b, k.trans c, d⟩
/-- one that was made here -/
def XM (C : Cx) (env : Env) (σ : Store) (h : Heap) (D : Addr) (v : Value) (s' : Shared) : Prop :=
  ∃ σ1 h1 e vs, v = .ref e ∧ St C σ1 { s' with heap := h1 } ∧ Evo σ h σ1 h1 ∧ Heap.MadeExcOf h1 s'.heap e (.ref D) vs

/-- a call that may raise D -/
def CallR (C : Cx) (A : Around) (l : List Env) (f : Value) (args : List V) (σ : Store) (Q : V → Store → Prop) (D : Addr) : Prop :=
  ∀ s vs, St C σ s → VRs s.heap vs args → Frs C σ s.heap l → wpAny C.M A (call f vs) (EP C σ s.heap Q) (XR C σ s.heap l D) s
/-- a call that looks at the frames -/
def CallF (C : Cx) (A : Around) (l : List Env) (f : Value) (args : List V) (σ : Store) (Q : V → Store → Prop) (X : XP) : Prop :=
  ∀ s vs, St C σ s → VRs s.heap vs args → Frs C σ s.heap l → wpAny C.M A (call f vs) (EP C σ s.heap Q) X s

theorem CallR.fn {f D : Addr} {o : Obj} {fd : FuncData} {body : List Stmt} {names : List Str} {args : List V} {Q : V → Store → Prop}
    (ho : C.h₀.get? f = some o) (hd : o.data = .func fd) (hlim : C.h₀.NoLimit) (hcd : C.h₀.CodeRec fd.code fd.qualname) (hbody : fd.body = .stmts body)
    (hbind : ∀ vals : List Value, vals.length = args.length → bindArgs fd ⟨vals, []⟩ = pure (names.zip vals)) (hclo : fd.closure = []) (nd : names.Nodup)
    (hkind : ∀ x ∈ names, fd.scope.names.lookup x = some .local ∨ (fd.scope.names.lookup x = some .cell ∧ ∀ L, ((cellsFrom L fd.scope.names []).lookup x).isSome = true))
    (hroom : A.depth < recursionLimit) (hsc : scopeOk fd.scope = true) (hco : fd.scope.isCoroutine = false) (hgen : fd.scope.isGenerator = false) (hk : fd.scope.kind = .function) (hfr : A.frames = some l)
    (h : ∀ L s₁, St C σ s₁ → Fm C σ s₁.heap (callEnvC fd L f) (names.zip args) →
      wpAny C.M (A.deeper (callEnvC fd L f)) (execs body (callEnvC fd L f)) (SP C (callEnvC fd L f) σ s₁.heap (fun g _ σ' => Q g.val σ')) (XM C (callEnvC fd L f) σ s₁.heap D) s₁) : CallR C A l (.ref f) args σ Q D := by
  intro s vs S r Fs
  have hk' : ∀ b o, C.h₀.get? b = some o → s.heap.get? b = some o := S.base
  refine wpAny_call (codeAny_call_cells (fd := fd) hroom (hk' _ _ ho) hd (hlim.keeps hk') (hcd.keeps hk') hbody (hbind vs r.length) hclo ?_ (fun s₁ x => ?_) hco hgen hk)
  · intro y hy
    rcases hkind y.1 (List.of_mem_zip hy).1 with q | ⟨q, q'⟩
    · exact .inl q
    · exact .inr ⟨q, q' _⟩
  · obtain ⟨S₁, F₁, keep⟩ := S.callee r nd hk hsc x
    refine wpAny_mono (h s.heap.objs.size s₁ S₁ F₁) (fun fl s' z => ?_) (fun v s' z => ?_)
    · have y := EP.ret S keep (fun n c hc => x.above n c (mem_of_lookup hc)) z
      cases fl <;> exact y
    · obtain ⟨σ1, h1, e, ws, rfl, S1, e1, hx⟩ := z
      have E1 : Evo σ s.heap σ1 h1 := (Evo.ext keep).trans e1
      have Fs1 : Frs C σ1 h1 (callEnvC fd s.heap.objs.size f :: l) := (F₁.frs rfl (Fs.evo (Evo.ext keep))).evo e1
      have cov : ∀ b o, h1.get? b = some o → b ∉ (callEnvC fd s.heap.objs.size f :: l).filterMap (·.frame) → (hideAll h1 ((callEnvC fd s.heap.objs.size f :: l).filterMap (·.frame))).get? b = some o := fun b o q n => hideAll_get _ q n
      refine wpAny_leaves_madeW (base := hideAll h1 ((callEnvC fd s.heap.objs.size f :: l).filterMap (·.frame))) (h := h1) (Around.frames_deeper hfr) rfl (fun b o q => of_hideAll _ q) (Fs1.fun fun b hb => hb) hx fun h' t x1 x2 x3 x4 => ?_
      exact ⟨σ1, h1, e, _, t, _, rfl, S1, E1, Fs1.hid, cov, hx.new, (Heap.UpToSlots.of_keeps hx.keeps).trans x4, x1⟩

theorem CallF.fn {f : Addr} {o : Obj} {fd : FuncData} {body : List Stmt} {names : List Str} {args : List V} {Q : V → Store → Prop}
    (ho : C.h₀.get? f = some o) (hd : o.data = .func fd) (hlim : C.h₀.NoLimit) (hcd : C.h₀.CodeRec fd.code fd.qualname) (hbody : fd.body = .stmts body)
    (hbind : ∀ vals : List Value, vals.length = args.length → bindArgs fd ⟨vals, []⟩ = pure (names.zip vals)) (hclo : fd.closure = []) (nd : names.Nodup)
    (hkind : ∀ x ∈ names, fd.scope.names.lookup x = some .local ∨ (fd.scope.names.lookup x = some .cell ∧ ∀ L, ((cellsFrom L fd.scope.names []).lookup x).isSome = true))
    (hroom : A.depth < recursionLimit) (hsc : scopeOk fd.scope = true) (hco : fd.scope.isCoroutine = false) (hgen : fd.scope.isGenerator = false) (hk : fd.scope.kind = .function) (hfr : A.frames = some l)
    (h : ∀ L s₁, St C σ s₁ → Fm C σ s₁.heap (callEnvC fd L f) (names.zip args) → Frs C σ s₁.heap l →
      wpAny C.M (A.deeper (callEnvC fd L f)) (execs body (callEnvC fd L f)) (SP C (callEnvC fd L f) σ s₁.heap (fun g _ σ' => Q g.val σ')) (fun _ _ => False) s₁) : CallF C A l (.ref f) args σ Q X := by
  intro s vs S r Fs
  have hk' : ∀ b o, C.h₀.get? b = some o → s.heap.get? b = some o := S.base
  refine wpAny_call (codeAny_call_cells (fd := fd) hroom (hk' _ _ ho) hd (hlim.keeps hk') (hcd.keeps hk') hbody (hbind vs r.length) hclo ?_ (fun s₁ x => ?_) hco hgen hk)
  · intro y hy
    rcases hkind y.1 (List.of_mem_zip hy).1 with q | ⟨q, q'⟩
    · exact .inl q
    · exact .inr ⟨q, q' _⟩
  · obtain ⟨S₁, F₁, keep⟩ := S.callee r nd hk hsc x
    refine wpAny_mono (h s.heap.objs.size s₁ S₁ F₁ (Fs.evo (Evo.ext keep))) (fun fl s' z => ?_) (fun v s' z => z.elim)
    have y := EP.ret S keep (fun n c hc => x.above n c (mem_of_lookup hc)) z
    cases fl <;> exact y

/-- if test: raise x(e₀) -/
theorem body_raise {test e₀ : Expr} {x : Str} {np cpos pos ipos : Pos} {rest : List Stmt} {D : Addr} {bm : List Value} {B newId initId : String} {Q : FV → Rho → Store → Prop}
    (O : OwnCls x D bm newId C.mg C.h₀) (FB : ExcBaseFacts B newId initId bm) (hh : A.handled = none) (S : St C σ s) (F : Fm C σ s.heap env ρ)
    (hx : env.kindOf x = some .globalImplicit) (hg : env.globals = mainGlobals)
    (h : Tst C A env test ρ σ (fun b σ1 => if b then Ev C A env e₀ ρ σ1 (fun _ _ => True) (fun _ _ => False) else Exs C A env rest ρ σ1 Q (fun _ _ => False)) (fun _ _ => False))
    (hd : (x == ("__debug__" : Str)) = false) (he : starEach [e₀] env = [(false, eval e₀ env)]) :
    wpAny C.M A (execs (.If test [.Raise (some (.Call (.Name x np) [e₀] [] cpos)) none pos] [] ipos :: rest) env) (SP C env σ s.heap Q) (XM C env σ s.heap D) s := by
  refine wpAny_execs_cons (wpAny_If (wpAny_mono (h s S F) ?_ fun _ _ z => z.elim))
  rintro b s1 ⟨σ1, h1, S1, e1⟩
  have F1 := F.evo e1
  cases b with
  | false =>
    simp only [Bool.false_eq_true, if_false] at h1 ⊢
    exact wpAny_execs_nil (wpAny_mono (h1 s1 S1 F1) (fun _ _ z => z.after (e1.evoF F.own)) fun _ _ z => z.elim)
  | true =>
    simp only [if_true] at h1 ⊢
    refine wpAny_execs_cons ?_
    obtain ⟨tl, N, nm, q, bs, hdct, sn, sub, ab, col, dd, k0, k1, k2, k3, k5, mN, hC, hN, hni, T⟩ := O.obj
    refine wpAny_Raise_call_subT (C := D) (nm := nm) (q := q) (N := N) (bs := bs) (bm := tl) (hdct := hdct) (sn := sn) (sub := sub) (ab := ab) (col := col) (dd := dd) (k0 := k0) (k1 := k1) (k2 := k2) (k3 := k3) (k5 := k5)
      FB (mN := mN) (T.hasType FB.hasBase) hh (by rw [he]; rfl) hni (Calls.Name_function_global F.fn hx (Calls.loadGlobal_global (mg := C.mg) (by rw [hg]; exact C.hg.keeps S1.base) O.bound ⟨rfl, ?_⟩) hd)
    rw [he]
    refine evalArgs_sp rfl (Calls.spliced_cons (wpAny_mono (h1 s1 S1 F1) ?_ fun _ _ z => z.elim))
    rintro v s2 ⟨y, σ2, _, r2, S2, e2⟩
    refine Calls.spliced_nil ⟨rfl, (by show 1 ≤ sizeLine; decide), S2.base _ _ hC, hN.keeps S2.base, T.keeps S2.base, fun h' e hm => ?_⟩
    exact ⟨σ2, s2.heap, e, _, rfl, S2, e1.trans e2, hm⟩

/-- f(args), where the call may raise -/
theorem call_raise {func : Expr} {args : List Expr} {pos : Pos} {D : Addr} {Q : V → Store → Prop} (S : St C σ s) (F : Fm C σ s.heap env ρ) (Fs : Frs C σ s.heap l)
    (h : Ev C A env func ρ σ (fun fx σ1 => ∃ f, (∀ v hp, VR hp v fx → v = f) ∧ Kp C f ∧ Ags C A env pos args ρ σ1 (fun xs σ2 => CallR C A l f xs σ2 Q D) (fun _ _ => False)) (fun _ _ => False))
    (hev : eval (.Call func args [] pos) env = (do callWith pos (← eval func env) [] (backTo pos (starEach args env)) (backToKw pos (keywordEach [] env))))
    (he : (backTo pos (starEach args env)).any (·.1) = false) : wpAny C.M A (eval (.Call func args [] pos) env) (EP C σ s.heap Q) (XR C σ s.heap l D) s := by
  rw [hev]
  refine wpAny_bind (wpAny_mono (h s S F) ?_ fun _ _ z => z.elim)
  rintro v s1 ⟨x, σ1, ⟨f, hf, kp, q⟩, r1, S1, e1⟩
  obtain rfl := hf v _ r1
  refine callWith_of (first := []) (P := fun h => ∀ b o, C.h₀.get? b = some o → h.get? b = some o) (by rw [he]; rfl) kp ?_
  refine evalArgs_sp he (wpAny_mono (q s1 S1 (F.evo e1)) ?_ fun _ _ z => z.elim)
  rintro vs s2 ⟨xs, σ2, q2, r2, S2, e2⟩
  exact ⟨S2.base, wpAny_mono (q2 s2 _ S2 r2 ((Fs.evo e1).evo e2)) (fun _ _ z => (z.after e2).after e1) fun _ _ z => (z.after e2).after e1⟩
/-- f(args), where the call looks at this frame -/
theorem Ev.callF {func : Expr} {args : List Expr} {pos : Pos} {Q : V → Store → Prop} (hf : env.frame = some env.locals)
    (h : Ev C A env func ρ σ (fun fx σ1 => ∃ f, (∀ v hp, VR hp v fx → v = f) ∧ Kp C f ∧ Ags C A env pos args ρ σ1 (fun xs σ2 => CallF C A [env] f xs σ2 Q X) X) X)
    (hev : eval (.Call func args [] pos) env = (do callWith pos (← eval func env) [] (backTo pos (starEach args env)) (backToKw pos (keywordEach [] env))))
    (he : (backTo pos (starEach args env)).any (·.1) = false) : Ev C A env (.Call func args [] pos) ρ σ Q X := by
  intro s S F
  rw [hev]
  refine wpAny_bind (wpAny_mono (h s S F) ?_ fun _ _ z => z)
  rintro v s1 ⟨x, σ1, ⟨f, hf', kp, q⟩, r1, S1, e1⟩
  obtain rfl := hf' v _ r1
  refine callWith_of (first := []) (P := fun h => ∀ b o, C.h₀.get? b = some o → h.get? b = some o) (by rw [he]; rfl) kp ?_
  refine evalArgs_sp he (wpAny_mono (q s1 S1 (F.evo e1)) ?_ fun _ _ z => z)
  rintro vs s2 ⟨xs, σ2, q2, r2, S2, e2⟩
  exact ⟨S2.base, wpAny_mono (q2 s2 _ S2 r2 ((((F.evo e1).evo e2)).frs hf .nil)) (fun _ _ z => (z.after e2).after e1) fun _ _ z => z⟩

theorem St.adoptX {a : Addr} {o : O} {σ0 : Store} {h0 : Heap} (S : St C σ s) (r : Rep C s.heap a o) (hn : C.h₀.get? a = none) (hl : C.loose) (e : Evo σ0 h0 σ s.heap) (hf : h0.get? a = none) : St C (σ.upd a o) s ∧ Evo σ0 h0 (σ.upd a o) s.heap := by
  refine ⟨⟨S.base, fun b x hx => ?_, fun b x hx => ?_, S.gens, S.os⟩, e.keep, fun b x hx => ?_, fun b x hx => ?_, e.tup⟩
  · by_cases q : b = a
    · subst q; rw [Store.upd_self] at hx; cases hx; exact r
    · rw [Store.upd_ne _ _ q] at hx; exact S.rep b x hx
  · by_cases q : b = a
    · subst q; exact ⟨hn, .inr (.inr hl)⟩
    · rw [Store.upd_ne _ _ q] at hx; exact S.above b x hx
  · by_cases q : b = a
    · subst q; exact .inr hf
    · rw [Store.upd_ne _ _ q] at hx; exact e.dom b x hx
  · obtain ⟨o', e'⟩ := e.mono b x hx
    by_cases q : b = a
    · subst q; exact ⟨_, Store.upd_self ..⟩
    · exact ⟨o', by rw [Store.upd_ne _ _ q]; exact e'⟩

/-- try: bexpr, except x as n: suite (which ends by return), rest -/
theorem try_body {bexpr : Expr} {epos tpos hpos np : Pos} {x n : Str} {b₀ : Stmt} {suite rest : List Stmt} {D E : Addr} {Q : V → Store → Prop}
    (S : St C σ s) (F : Fm C σ s.heap env ρ) (hfr : A.frames = some (env :: l)) (hf : env.frame = some env.locals) (hlo : C.loose)
    (hb : wpAny C.M A (eval bexpr env) (EP C σ s.heap (fun _ σ1 => Exs C A env rest ρ σ1 (fun g _ σ' => Q g.val σ') (fun _ _ => False))) (XR C σ s.heap (env :: l) D) s)
    (hm : exmOne C.K (.ref D) (.ref E) = some true) (e : nsIn C.K mainGlobals x = some (some (.ref E))) (hx : env.kindOf x = some .globalImplicit) (hg : env.globals = mainGlobals) (hn : env.kindOf n = some .local)
    (hsuite : ∀ (e : Addr) (σ1 : Store), Exs C (A.mark (some (.ref e))) env (b₀ :: suite) (ρ.put n (.ref e)) (σ1.upd e (.exc D)) (fun g _ σ' => ∃ v, g = .ret v ∧ Q v σ') (fun _ _ => False))
    (hd : (x == ("__debug__" : Str)) = false) (hi : interactive env = false) (hs : swapsWith bexpr none epos.line env = pure false) (hc : env.cells = []) :
    wpAny C.M A (execs (.Try [.Expr bexpr epos] [.ExceptHandler (some (.Name x np)) (some n) (b₀ :: suite) hpos] [] [] tpos :: rest) env) (SP C env σ s.heap (fun g _ σ' => Q g.val σ')) (fun _ _ => False) s := by
  refine wpAny_execs_cons (wpAny_Try_except (wpAny_execs_cons (wpAny_Expr_any (wpAny_mono hb ?_ ?_) hi hs)))
  · rintro v s1 ⟨y, σ1, h1, r1, S1, e1⟩
    refine wpAny_execs_nil (wpAny_execs_nil ?_)
    exact wpAny_mono (h1 s1 S1 (F.evo e1)) (fun _ _ z => z.after (e1.evoF F.own)) fun _ _ z => z
  · rintro v s1 ⟨σ1, h1, e, B, t, fs, rfl, S1, e1, H, cov, hnew, up, fly⟩
    refine wpAny_looks_onW hfr hf fly fun h4 held4 up4 => ?_
    refine wpAny_landsW held4 fun h5 fly5 up5 => ?_
    have U5 : h1.UpToSlots h5 := (up.trans up4).trans up5
    obtain ⟨S5, E5⟩ := settle S1 H cov fly5.1 U5 s1.toks
    obtain ⟨ob, hob, hobc⟩ := fly5.there
    refine wpAny_handleBy_cons (codeAny_handlers_test (Calls.Name_function_global F.fn hx (Calls.loadGlobal_global (mg := C.mg) (by rw [hg]; exact C.hg.keeps S5.base) (mg_of C.KX C.hg ‹_›) ?_) hd)) (by intro q; cases q)
    have LT : Looks C.M h5 (typeOf (.ref e)) (.ref D) := hobc ▸ (Looks.ld hob).andThen .now
    refine (exm_one (M := C.M) (K := C.K) (h := h5) S5.K LT hm).here ?_
    refine codeAny_handlers_suite_as ?_
    refine lands_againW fly5 fun h6 fly6 up6 => ?_
    obtain ⟨S6, E6⟩ := settle S1 H cov fly6.1 (U5.trans up6) s1.toks
    obtain ⟨oe, ws, hoe, hoec, hoed, _⟩ := fly6.first
    have hC0 : C.h₀.get? e = none := by
      cases q : C.h₀.get? e with
      | none => rfl
      | some o => have := S1.base _ _ q; rw [hnew] at this; cases this
    obtain ⟨S7, E7⟩ := S6.adoptX (a := e) (o := .exc D) ⟨oe, ws, hoe, hoec, hoed⟩ hC0 hlo E6 hnew
    have F7 : Fm C (σ1.upd e (.exc D)) h6 env ρ := (F.evo e1).evo E7
    obtain ⟨m, hm7, fm⟩ := F7.loc
    refine wpAny_storeName_local hn hm7 (fun h8 hn8 hs8 => ?_) (by rw [F.fn]; rfl)
    obtain ⟨S8, F8, E8⟩ := Fm.storeLocal (h := h6) (t := s1.toks + 1) (s := { s1 with heap := h6 }) S7 F7 hn hm7 fm hn8 hs8 (.ref e) (by rw [hc]; rfl)
    refine wpAny_mono (hsuite e σ1 _ S8 F8) ?_ fun _ _ z => z.elim
    rintro f s9 ⟨g, ρ9, σ9, ⟨v, rfl, q9⟩, r9, S9, F9, E9⟩
    obtain ⟨m9, hm9, fm9⟩ := F9.loc
    refine wpAny_nameGoes hn hm9 (by rw [F.fn]; rfl) fun h10 m10 hn10 hs10 => ?_
    cases r9 with
    | ret r9 =>
    obtain ⟨o9, es9, ep9, ho9, hd9, _⟩ := hm9
    have tk : TupKeep s9.heap h10 := fun a o i q => (hs10.2 a fun z => by subst z; rw [ho9] at q; cases q; exact Imm.notDict hd9 i).trans q
    have hne : ∀ b, b ≠ env.locals → h10.get? b = s9.heap.get? b := fun b q => hs10.2 b q
    have S10 : St C σ9 { s9 with heap := h10, toks := s9.toks + 1 } := by
      refine ⟨fun b o q => (hne b fun z => ?_).trans (S9.base b o q), fun a o q => (S9.rep a o q).at (fun y hy => (hne a fun z => ?_).trans hy) tk, S9.above, S9.gens, S9.os⟩
      · have := C.low b o q; rw [z] at this; exact absurd this (Nat.not_lt.mpr F9.abv)
      · subst z; rw [F9.locs] at q; cases q
    refine ⟨.ret v, [], σ9, q9, .ret (r9.mono tk), S10, ⟨F9.fn, ⟨m10, hn10, fun y u _ hu => (nomatch hu)⟩, F9.locs, F9.abv, fun y c hy => ?_, fun y c hy => ?_, F9.apart⟩, ?_⟩
    · rw [hc] at hy; cases hy
    · rw [hc] at hy; cases hy
    · have E10 : EvoF env σ9 s9.heap σ9 h10 := by
        refine ⟨fun b o q n w => .inl ((hne b fun z => w (.inl z)).trans q), fun b o q => .inl ⟨o, q⟩, fun b o q => ⟨o, q⟩, tk, fun b o q w => ?_⟩
        rcases w with rfl | ⟨y, w⟩
        · obtain ⟨o', _, _, ho', _⟩ := hn10
          exact ⟨o', ho'⟩
        · rw [hc] at w; cases w
      exact (((e1.trans E7).evoF F.own).trans E8).trans (E9.trans E10)
end
end Mine

set_option autoImplicit false
set_option linter.unusedVariables false
set_option maxRecDepth 100000
namespace Mine
open PySem PySem.W PySem.SeqAt PyProof.Rows PySem.Calls PySem.Builtin PySem.Builtin.ObjectAttr PySem.Builtin.Getset_descriptor
/-- an exception of an own class -/
def ExAt (x D : Addr) (h : Heap) : Prop := ∃ o vs, h.get? x = some o ∧ o.cls = .ref D ∧ o.data = .fields vs
theorem ExAt.type {x D : Addr} {M : Model} {h : Heap} (I : ExAt x D h) : Looks M h (typeOf (.ref x)) (.ref D) := by
  obtain ⟨o, vs, e, hc, _⟩ := I
  exact hc ▸ (Looks.ld e).andThen .now
/-- what isinstance asks of the class -/
def excKit (K : Frag) (D : Addr) : Bool :=
  (findIn K (.ref D) "__getattribute__" == some (some (.builtin "BaseException.__getattribute__"))) && (findIn K (.ref D) "__getattr__" == some none) && (findIn K (.ref D) "__class__" == some (some (.builtin "object.__class__"))) &&
  (specialIn K (.builtin "object.__class__") "__get__" == some (some (.builtin "getset_descriptor.__get__"))) && (takesIn K (.builtin "object.__class__") == some true) && (mroIn K D (.type "object") == some true) && (mroIn K D (.type "BaseException") == some true) && (clsIn K D).isSome
section
variable {prog : Program} {w : World} {A : Around} {E : Value → Shared → Prop} {s : Shared} {K : Frag} {x D : Addr}
theorem exc_find {M : Model} {h : Heap} {g a : Value} (X : K.In h) (I : ExAt x D h) (ha : findIn K (.ref D) "__class__" = some (some a)) (hn : specialIn K a "__get__" = some (some g)) (htk : takesIn K a = some true) :
    Looks M h (find (.ref x) (.ref D) "__class__") (.bind g a) := by
  have L1 := looks_findIn (M := M) X ha
  have L2 : Looks M h (getOf (some a)) (some g) := looks_specialIn X hn
  have L3 := looks_takesIn (M := M) X htk
  exact L1.andThen (L2.andThen ((show Looks M h (dataDescriptor? (some a) (some g)) (some (g, a)) from L3.andThen .now).andThen (Looks.tag .now)))
theorem exc_get {R : Result → Shared → Prop} {tp : Value} (X : K.In s.heap) (I : ExAt x D s.heap) (hm : mroIn K D (.type "object") = some true) (h : R (.ok (.ret (.ref D))) s) :
    codeAny (model prog w) A (.call (.builtin "getset_descriptor.__get__") ⟨[.builtin "object.__class__", .ref x, tp], []⟩) R s := by
  obtain ⟨hh, g, dr, t, os⟩ := s
  have L0 := I.type (M := model prog w)
  have L1 := looks_mroIn (M := model prog w) X hm
  refine codeAny_call_builtin KF.slot_gs.plain KF.entry_gs (KF.slot_gs.check _ _ _ _ _ _ _ _ KF.type_class (KF.args_gs _ _ _) ?_)
  unfold Builtin.«getset_descriptor.__get__» descrGet
  rw [dga_obj]
  refine wpAny_bind (wpAny_pure ?_)
  unfold descrGetter descrCheckInstance descrNameAndClass isInstance
  simp only [KF.owner_class]
  repeat lk
  refine ⟨Code.quiet_builtin _ (by decide +kernel), codeAny_builtin KF.entry_class ?_⟩
  unfold Builtin.«object.__class__» shownTypeOf
  repeat lk
  exact h
theorem exc_check {nameV : Value} {Q : Unit → Shared → Prop} (X : K.In s.heap) (I : ExAt x D s.heap) (hm : mroIn K D (.type "BaseException") = some true) (hq : Q () s) : wpAny (model prog w) A (checkBuiltinCall "BaseException.__getattribute__" ⟨[.ref x, nameV], []⟩) Q E s := by
  have hk : builtinKind "BaseException.__getattribute__" = some .slot := by decide +kernel
  have hsplit : splitId "BaseException.__getattribute__" = some ("BaseException", "__getattribute__") := by decide +kernel
  have ha := F.args_bexc_ga (.ref x) nameV
  have L0 := I.type (M := model prog w)
  have LI : Looks (model prog w) s.heap (isInstance (.ref x) (.type "BaseException")) true := L0.andThen (looks_mroIn (M := model prog w) X hm)
  obtain ⟨hh, g, d, t, os⟩ := s
  simp only [checkBuiltinCall, hk, hsplit]
  refine wpAny_bind (LI.at ?_)
  repeat wp_step
  exact hq
theorem exc_class {Q : Option Value → Shared → Prop} (hK : excKit K D = true) (X : K.In s.heap) (I : ExAt x D s.heap) (h : Q (some (.ref D)) { s with toks := s.toks + 1 }) : wpAny (model prog w) A (getAttr? (.ref x) "__class__") Q E s := by
  unfold excKit at hK
  simp only [Bool.and_eq_true, beq_iff_eq] at hK
  obtain ⟨⟨⟨⟨⟨⟨⟨h1, h2⟩, h3⟩, h4⟩, h5⟩, h6⟩, h7⟩, _⟩ := hK
  have L0 := I.type (M := model prog w)
  have L1 := looks_findIn (M := model prog w) X h1
  have L2 := exc_find (M := model prog w) X I h3 h4 h5
  have L3 := looks_findIn (M := model prog w) X h2
  have f3 := F.attrBase_ValueError.ga.bind (.ref x)
  have hx2 : (Value.builtin "BaseException.__getattribute__" == Value.builtin "object.__getattribute__") = false := by decide +kernel
  obtain ⟨hh, g, d, t, os⟩ := s
  unfold getAttr? getAttrBy? getAttrBy
  refine wpAny_bind (wpAny_mkText (wpAny_bind (wpAny_attempt (wpAny_holding (wpAny_bind (L0.at (wpAny_bind (L1.at ?_))))))))
  dsimp only
  rw [hx2, Bool.and_false, if_neg Bool.false_ne_true]
  unfold getAttrByItsOwn
  refine wpAny_bind (show wpAny _ _ (typeLookup (.ref D) "__getattr__") _ _ _ from L3.at ?_)
  refine wpAny_bind (wpAny_attempt (wpAny_holding ?_))
  show wpAny _ _ (boundAndCalled _ _ _) _ _ _
  unfold boundAndCalled
  rw [f3]
  refine wpAny_bind (wpAny_pure ?_)
  refine wpAny_call (codeAny_call_builtin F.attrBase_ValueError.ga.plain F.entry_bexc_ga (exc_check (s := ⟨hh, g, d, t + 1, os⟩) X I h7 ?_))
  refine wpAny_bind (wpAny_pure (wpAny_bind (wpAny_pure (wpAny_bind (L0.at (wpAny_bind (L2.at ?_)))))))
  show wpAny _ _ (holding [.builtin "object.__class__"] (call (.builtin "getset_descriptor.__get__") [.builtin "object.__class__", .ref x, .ref D]) >>= ret) _ _ _
  refine wpAny_bind (wpAny_holding (wpAny_call (exc_get (s := ⟨hh, g, d, t + 1, os⟩) X I h6 ?_)))
  refine wpAny_pure ?_
  exact handed_on rfl (wpAny_pure h)
theorem kitx_exc (hK : excKit K D = true) : KitX K (.ref x) (.ref D) (ExAt x D) where
  ty := fun _ _ _ I => I.type
  it := fun _ _ X _ => by
    have hK' := hK
    unfold excKit at hK'
    simp only [Bool.and_eq_true] at hK'
    have hc := hK'.2
    unfold clsIn at hc
    split at hc
    · rename_i c' d' cd' sl' ho
      intro A' Q' E' s' k q
      unfold isType loadHead
      exact wpAny_bind (wpAny_loadPart (k _ _ (X _ _ ho)) (wpAny_pure q))
    · cases hc
  ne := fun h tp dd its n sl X htp => by
    have hK' := hK
    unfold excKit at hK'
    simp only [Bool.and_eq_true] at hK'
    have hc := hK'.2
    refine Bool.eq_false_iff.mpr fun q => ?_
    have e : D = tp := Value.ref.inj (beq_iff_eq.mp q)
    subst e
    unfold clsIn at hc
    split at hc
    · rename_i c' d' cd' sl' ho
      have z := (X _ _ ho).symm.trans htp
      cases z
    · cases hc
  ca := fun X I k => exc_class hK X I k
end
section
variable {C : Cx} {A : Around} {env : Env} {ρ : Rho} {σ : Store} {X : XP} {s : Shared}
theorem isi_exc {e D T : Addr} {b : Bool} {Q : V → Store → Prop} (he : σ e = some (.exc D)) (hK : excKit C.K D = true) (hk : kitOne C.K (.ref D) (.ref T) = some b) (h : Q (.bool b) σ) : CallWP C A (.builtin "isinstance") [.ref e, .ref T] σ Q X := by
  rintro s vs S (_ | ⟨r1, _ | ⟨r2, ⟨⟩⟩⟩)
  cases r1; cases r2
  exact kia_one (kitx_exc (x := e) hK) S.K (S.rep _ _ he) hk (by intro q; cases q) fun tk => EP.pureT S h (.bool _)
theorem isi_excT {e D : Addr} {T : String} {b : Bool} {Q : V → Store → Prop} (he : σ e = some (.exc D)) (hK : excKit C.K D = true) (hk : kitOne C.K (.ref D) (.type T) = some b) (h : Q (.bool b) σ) : CallWP C A (.builtin "isinstance") [.ref e, .typ T] σ Q X := by
  rintro s vs S (_ | ⟨r1, _ | ⟨r2, ⟨⟩⟩⟩)
  cases r1; cases r2
  exact kia_one (kitx_exc (x := e) hK) S.K (S.rep _ _ he) hk (by intro q; cases q) fun tk => EP.pureT S h (.bool _)
end
end Mine

set_option autoImplicit false
set_option linter.unusedVariables false
set_option maxRecDepth 100000
namespace Mine
open PySem PySem.W PySem.SeqAt PyProof.Rows PySem.Calls PySem.Builtin PySem.Builtin.Str
/-- a text's signs -/
def signsV (x : Str) : List V := x.cps.toList.map fun c => V.str ⟨#[c]⟩
section
variable {C : Cx} {A : Around} {env : Env} {ρ : Rho} {σ : Store} {X : XP} {s : Shared}
theorem signs_get {x : Str} {k : Nat} {y : V} (h : (signsV x)[k]? = some y) : ∃ c, x.cps[k]? = some c ∧ y = .str ⟨#[c]⟩ := by
  unfold signsV at h
  rw [List.getElem?_map] at h
  obtain ⟨c, h1, h2⟩ := Option.map_eq_some_iff.mp h
  exact ⟨c, by simpa using h1, h2.symm⟩
theorem signs_none {x : Str} {k : Nat} (h : (signsV x)[k]? = none) : x.cps[k]? = none := by
  unfold signsV at h
  rw [List.getElem?_map] at h
  simpa using h
theorem striter_imm {h : Heap} {it : Addr} {T : String} {x : Str} {t : Tok} {k : Nat} (hT : T = "str_ascii_iterator" ∨ T = "str_iterator") (J : h.IsStrIter it T x t k) {o : Obj} (e : h.get? it = some o) : ¬ Imm o := by
  obtain ⟨o', e', c, d⟩ := J
  rw [e] at e'; cases e'
  rcases hT with rfl | rfl <;> exact Imm.not (by rw [c]; simp) (by rw [c]; simp) (by rw [c]; simp)
theorem Itr.strG {target : Expr} {it : Addr} {x : Str} {t : Tok} {T : String} (hT : T = "str_ascii_iterator" ∨ T = "str_iterator") (hh : A.handled = none) :
    Itr C A target (.ref it) (fun b => b = it) (fun k h => h.IsStrIter it T x t k) (fun _ => True) (signsV x) where
  frame := fun k h h' ⟨o, e, r⟩ _ kp => ⟨o, kp it o rfl e, r⟩
  notTup := fun k h b o' J q z => by subst q; exact striter_imm hT J z
  notD := fun k h b o' ⟨o, e, c, d⟩ q z es n w => by subst q; rw [e] at z; cases z; rw [d] at w; cases w
  there := fun k h b ⟨o, e, _⟩ q => by subst q; exact ⟨o, e⟩
  more := fun k σ s y Q X S hok hJ hx no hQ => by
    obtain ⟨c, hc, rfl⟩ := signs_get hx
    have go : ∀ h', h'.IsStrIter it T x t (k + 1) → Heap.SameBut it s.heap h' → Q (some (.str ⟨#[c]⟩ s.toks)) { s with heap := h', toks := s.toks + 1 } := fun h' J' sb => by
      have kp : ∀ b o, ¬ b = it → s.heap.get? b = some o → h'.get? b = some o := fun b o q e => (sb.2 b q).trans e
      refine hQ _ h' (s.toks + 1) (.str _ _) kp (fun b o' q z => ?_) (fun Q' X' hq => ?_)
      · subst q; exact striter_imm hT J' z
      · obtain ⟨o, e, hc, _⟩ := id J'
        rcases hT with rfl | rfl <;> exact letGo_plain (s := { s with heap := h', toks := s.toks + 1 }) e hc (by decide) (hq h' (s.toks + 1) J' fun _ _ _ e => e)
    rcases hT with rfl | rfl
    · exact wpAny_pyNext_ascii_item hJ hc go
    · exact wpAny_pyNext_wide_item hJ hc go
  self := fun k s Q X hJ hq => by
    rcases hT with rfl | rfl
    · exact wpAny_pyIter_striter_ascii hJ hq
    · exact wpAny_pyIter_striter_wide hJ hq
  done := fun k σ s Q X S hok hJ hx no hQ => by
    rcases hT with rfl | rfl
    · exact wpAny_pyNext_ascii_end hh hJ (signs_none hx) fun h' kp => hQ h' s.toks fun b o q e => kp b o q e
    · exact wpAny_pyNext_wide_end hh hJ (signs_none hx) fun h' kp => hQ h' s.toks fun b o q e => kp b o q e
theorem ItV.str {target : Expr} {x : Str} (hh : A.handled = none) : ItV C A target (.str x) σ (signsV x) (fun _ => True) := by
  refine ⟨trivial, fun s v Q X S r hQ => ?_⟩
  cases r with
  | str _ t =>
    cases ha : x.cps.all (· < 128)
    · exact wpAny_pyIter_wide ha (hQ _ _ _ _ s.toks (Itr.strG (t := t) (.inr rfl) hh) (fun b o e => Heap.get?_push_of_some _ e) (fun b w => w ▸ Nat.le_refl _) ⟨_, Heap.get?_push_size _ rfl, rfl, rfl⟩)
    · exact wpAny_pyIter_ascii ha (hQ _ _ _ _ s.toks (Itr.strG (t := t) (.inl rfl) hh) (fun b o e => Heap.get?_push_of_some _ e) (fun b w => w ▸ Nat.le_refl _) ⟨_, Heap.get?_push_size _ rfl, rfl, rfl⟩)

def inS (x y : Str) : Bool := !(Builtin.Str.occurrences x y 0 x.length 1).isEmpty
theorem CmpWP.inStr {x y : Str} {Q : V → Store → Prop} (h : Q (.bool (inS x y)) σ) : CmpWP C A .In (.str y) (.str x) σ Q X := by
  rintro s _ _ S ⟨⟩ ⟨⟩; exact PyProof.Rows.in_str (EP.pure S h (.bool _))
theorem CmpWP.eq_bool {a b : Bool} {Q : V → Store → Prop} (hu : A.units < 9000) (h : Q (.bool (a == b)) σ) : CmpWP C A .Eq (.bool a) (.bool b) σ Q X := by
  have e : PyData.eqv (.bool a) (.bool b) = (a == b) := by cases a <;> cases b <;> rfl
  refine CmpWP.eq (.bool _) (.bool _) rfl rfl (by simp only [PyData.depth, cLine]; omega) ?_
  rw [e]; exact h
theorem UnWP.not {x : V} {Q : V → Store → Prop} (h : TruWP C A x σ (fun b σ' => Q (.bool (!b)) σ') X) : UnWP C A .Not x σ Q X := by
  intro s v S r
  refine PyProof.Rows.not_of (wpAny_mono (h s v S r) ?_ fun _ _ z => z)
  rintro b s' ⟨σ', q, S', e'⟩
  exact ⟨_, σ', q, .bool _, S', e'⟩
theorem CallWP.upper {x : Str} {Q : V → Store → Prop} (hz : tooLong (Txt.upper x).length = false) (h : Q (.str (Txt.upper x)) σ) : CallWP C A (.builtin "str.upper") [.str x] σ Q X := by
  rintro s vs S (_ | ⟨r1, ⟨⟩⟩)
  cases r1
  exact SC.upper hz (EP.pureT S h (.str _ _))
def isT : Value → Bool
  | .bool b => b
  | _ => false
theorem bools_of {h : Heap} : ∀ {vs : List Value} {bs : List Bool}, VRs h vs (bs.map V.bool) → vs = bs.map Value.bool
  | vs, [], r => by cases r; rfl
  | vs, b :: bs, r => by
    cases r with
    | cons r1 r2 =>
    cases r1
    rw [bools_of r2]; rfl
theorem eqT {b : Bool} (S : St C σ s) (hu : A.units < 9000) : EqAt A.in1 s (.bool b) (.bool true) b := by
  intro prog w E Q hq
  obtain ⟨as, r1⟩ := (DR.bool (C := C) (σ := σ) b).reads S (.bool b)
  obtain ⟨bs, r2⟩ := (DR.bool (C := C) (σ := σ) true).reads S (.bool true)
  refine eqBoolOverData prog w _ E s _ _ _ _ _ _ Q r1 r2 rfl rfl ?_ ?_
  · show A.units + 1 + _ < _
    simp only [PyData.depth, cLine]; omega
  · have e : PyData.eqv (.bool b) (.bool true) = b := by cases b <;> rfl
    rw [e]; exact hq
theorem CallWP.countB {l : Addr} {bs : List Bool} {Q : V → Store → Prop} (hl : LstAt C σ l (bs.map V.bool)) (hu : A.units < 9000) (h : Q (.int ((bs.countP id : Nat) : Int)) σ) : CallWP C A (.builtin "list.count") [.ref l, .bool true] σ Q X := by
  rintro s vs S (_ | ⟨r1, _ | ⟨r2, ⟨⟩⟩⟩)
  cases r1; cases r2
  obtain ⟨items, hI, rl⟩ := hl.raw S
  have e := bools_of rl
  obtain ⟨⟨cls, dd, data, sl⟩, ho, hc, n, hd⟩ := id hI
  simp only at hc hd
  subst hc hd
  refine call_meets PySem.F.slot_list_count ⟨_, ho, rfl⟩ PySem.F.entry_list_count (PySem.F.args_list_count_2 _ _) (list_countAt l items n dd sl (.bool true) isT) ⟨ho, fun y hy => ?_, ?_⟩
  · have hy' : y ∈ items.toList := by simpa using hy
    rw [e] at hy'
    obtain ⟨b, _, rfl⟩ := List.mem_map.mp hy'
    exact eqT S hu
  · rw [e]
    have e2 : (bs.map Value.bool).countP isT = bs.countP id := by rw [List.countP_map]; rfl
    rw [e2]
    exact EP.pureT S h (.int _ _)
theorem CallWP.index0 {l : Addr} {bs : List Bool} {Q : V → Store → Prop} (hl : LstAt C σ l (V.bool true :: bs.map V.bool)) (hu : A.units < 9000) (h : Q (.int 0) σ) : CallWP C A (.builtin "list.index") [.ref l, .bool true] σ Q X := by
  rintro s vs S (_ | ⟨r1, _ | ⟨r2, ⟨⟩⟩⟩)
  cases r1; cases r2
  obtain ⟨items, hI, rl⟩ := hl.raw S
  have e := bools_of (bs := true :: bs) rl
  obtain ⟨⟨cls, dd, data, sl⟩, ho, hc, n, hd⟩ := id hI
  simp only at hc hd
  subst hc hd
  have e' : items = ((true :: bs).map Value.bool).toArray := by rw [← e]
  subst e'
  refine call_meets PySem.F.slot_list_index ⟨_, ho, rfl⟩ PySem.F.entry_list_index (PySem.F.args_list_index_2 _ _) (list_indexAt l _ n dd sl (.bool true) isT 0 (by simp) (by decide) (by simp [isT]) (fun m _ hm => absurd hm (Nat.not_lt_zero _))) ⟨ho, fun y hy => ?_, ?_⟩
  · have hy' : y ∈ (true :: bs).map Value.bool := by simpa using hy
    obtain ⟨b, _, rfl⟩ := List.mem_map.mp hy'
    exact eqT S hu
  · exact EP.pureT S h (.int _ _)
/-- def rules that tell the frames -/
theorem CallWP.def1F (x1 : Str) {f : Addr} {name qual : Str} {params : Arguments} {body : List Stmt} {scope : Scope} {dV kV doc pm cdv ct oc : Value} {an od : Option Addr} {osl : Array (Option Value)} {v1 : V} {Q : V → Store → Prop}
    (ho : C.K.lookup f = some ⟨oc, od, .func (fnOf name qual params body scope dV kV doc pm an cdv ct), osl⟩) (hcd : codeIn C.K cdv qual = true) (hroom : A.depth < recursionLimit)
    (hbind : ∀ u1 : Value, bindArgs (fnOf name qual params body scope dV kV doc pm an cdv ct) ⟨[u1], []⟩ = pure [(x1, u1)]) (nd : ([x1] : List Str).Nodup)
    (hkind : (([x1] : List Str).all fun y => scope.names.lookup y == some .local || scope.names.lookup y == some .cell) = true) (hsc : scopeOk scope = true) (hco : scope.isCoroutine = false) (hgen : scope.isGenerator = false) (hk : scope.kind = .function)
    (h : ∀ L A', A'.handled = A.handled → A'.depth = A.depth + 1 → A'.units = A.units + 3 → A'.frames = A.frames.map (mkE scope L (cellsFrom (L + 1) scope.names []) (qual ++ ".<locals>.") (some f) cdv (some L) :: ·) → Exs C A' (mkE scope L (cellsFrom (L + 1) scope.names []) (qual ++ ".<locals>.") (some f) cdv (some L)) body [(x1, v1)] σ (fun g _ σ' => Q g.val σ') (fun _ _ => False)) :
    CallWP C A (.ref f) [v1] σ Q X :=
  CallWP.fnK (names := [x1]) (args := [v1]) ho hcd hroom (fun L => h L _ rfl rfl rfl rfl) (fun vals hl => by match vals, hl with | [u1], _ => exact hbind u1) nd hkind hsc hco hgen hk
theorem CallR.def1 (x1 : Str) {f D : Addr} {l : List Env} {name qual : Str} {params : Arguments} {body : List Stmt} {scope : Scope} {dV kV doc pm cdv ct oc : Value} {an od : Option Addr} {osl : Array (Option Value)} {v1 : V} {Q : V → Store → Prop}
    (ho : C.K.lookup f = some ⟨oc, od, .func (fnOf name qual params body scope dV kV doc pm an cdv ct), osl⟩) (hcd : codeIn C.K cdv qual = true) (hroom : A.depth < recursionLimit)
    (hbind : ∀ u1 : Value, bindArgs (fnOf name qual params body scope dV kV doc pm an cdv ct) ⟨[u1], []⟩ = pure [(x1, u1)])
    (hkind : scope.names.lookup x1 = some .local) (hsc : scopeOk scope = true) (hco : scope.isCoroutine = false) (hgen : scope.isGenerator = false) (hk : scope.kind = .function) (hfr : A.frames = some l)
    (h : ∀ L A' s₁, A'.handled = A.handled → A'.depth = A.depth + 1 → A'.units = A.units + 3 → St C σ s₁ → Fm C σ s₁.heap (mkE scope L (cellsFrom (L + 1) scope.names []) (qual ++ ".<locals>.") (some f) cdv (some L)) [(x1, v1)] →
      wpAny C.M A' (execs body (mkE scope L (cellsFrom (L + 1) scope.names []) (qual ++ ".<locals>.") (some f) cdv (some L))) (SP C (mkE scope L (cellsFrom (L + 1) scope.names []) (qual ++ ".<locals>.") (some f) cdv (some L)) σ s₁.heap (fun g _ σ' => Q g.val σ'))
        (XM C (mkE scope L (cellsFrom (L + 1) scope.names []) (qual ++ ".<locals>.") (some f) cdv (some L)) σ s₁.heap D) s₁) : CallR C A l (.ref f) [v1] σ Q D := by
  refine CallR.fn (names := [x1]) (C.KX _ _ ho) rfl C.lim (codeRec_of C.KX hcd) rfl (fun vals hl => by match vals, hl with | [u1], _ => exact hbind u1) rfl (by simp) (fun x hx => ?_) hroom hsc hco hgen hk hfr (fun L s₁ S F => h L _ s₁ rfl rfl rfl S F)
  rcases List.mem_cons.mp hx with rfl | hx
  · exact .inl hkind
  · cases hx
theorem CallF.def1 (x1 : Str) {f : Addr} {l : List Env} {name qual : Str} {params : Arguments} {body : List Stmt} {scope : Scope} {dV kV doc pm cdv ct oc : Value} {an od : Option Addr} {osl : Array (Option Value)} {v1 : V} {Q : V → Store → Prop}
    (ho : C.K.lookup f = some ⟨oc, od, .func (fnOf name qual params body scope dV kV doc pm an cdv ct), osl⟩) (hcd : codeIn C.K cdv qual = true) (hroom : A.depth < recursionLimit)
    (hbind : ∀ u1 : Value, bindArgs (fnOf name qual params body scope dV kV doc pm an cdv ct) ⟨[u1], []⟩ = pure [(x1, u1)])
    (hkind : scope.names.lookup x1 = some .local) (hsc : scopeOk scope = true) (hco : scope.isCoroutine = false) (hgen : scope.isGenerator = false) (hk : scope.kind = .function) (hfr : A.frames = some l)
    (h : ∀ L A' s₁, A'.handled = A.handled → A'.depth = A.depth + 1 → A'.units = A.units + 3 → A'.frames = some (mkE scope L (cellsFrom (L + 1) scope.names []) (qual ++ ".<locals>.") (some f) cdv (some L) :: l) → St C σ s₁ →
      Fm C σ s₁.heap (mkE scope L (cellsFrom (L + 1) scope.names []) (qual ++ ".<locals>.") (some f) cdv (some L)) [(x1, v1)] → Frs C σ s₁.heap l →
      wpAny C.M A' (execs body (mkE scope L (cellsFrom (L + 1) scope.names []) (qual ++ ".<locals>.") (some f) cdv (some L))) (SP C (mkE scope L (cellsFrom (L + 1) scope.names []) (qual ++ ".<locals>.") (some f) cdv (some L)) σ s₁.heap (fun g _ σ' => Q g.val σ')) (fun _ _ => False) s₁) :
    CallF C A l (.ref f) [v1] σ Q X := by
  refine CallF.fn (names := [x1]) (C.KX _ _ ho) rfl C.lim (codeRec_of C.KX hcd) rfl (fun vals hl => by match vals, hl with | [u1], _ => exact hbind u1) rfl (by simp) (fun x hx => ?_) hroom hsc hco hgen hk hfr (fun L s₁ S F Fs => h L _ s₁ rfl rfl rfl (Around.frames_deeper hfr) S F Fs)
  rcases List.mem_cons.mp hx with rfl | hx
  · exact .inl hkind
  · cases hx
/-- the law's call, where the text may raise -/
theorem glueX {prog : Program} {w : World} {s₁ : Shared} {K : Frag} {p : Program} {loose : List Str} {mean : ExcName → Option Value} {mg mb : Str → Option Value} {l fa : Addr} {vs : List Value} {ns : List Int} (KX : K.In s₁.heap) (T : Top p loose mean mg mb s₁.heap)
    (gens : s₁.gens = #[]) (hl : s₁.heap.IsList l vs.toArray) (hI : IntsAre vs ns)
    (h : ∀ C : Cx, C.prog = prog → C.w = w → C.K = K → C.loose → Top p loose mean C.mg C.mb C.h₀ → BaseL C l (ns.map V.int) → CallWP C callerA (.ref fa) [.ref l] (fun _ => none) (fun v _ => v = .bool true) (fun _ _ => False)) :
    wpAny (model prog w) callerA (call (.ref fa) [.ref l]) (fun v s' => v = .bool true ∧ (∀ b o, s₁.heap.get? b = some o → s'.heap.get? b = some o) ∧ s'.os = s₁.os ∧ s'.gens = #[]) (fun _ _ => False) s₁ := by
  obtain ⟨n, hn1, hn2⟩ := top_exists s₁.heap s₁.heap.objs.size fun b o e => Heap.lt_size e
  have := h ⟨prog, w, s₁.heap, s₁.gens, s₁.os, n, hn1, hn2, K, KX, mg, mb, T.g, T.b, T.builtins, T.nolimit, [], True⟩ rfl rfl rfl trivial T ⟨vs.toArray, hl, by simpa using ints_VRs hI⟩ s₁ [.ref l]
    ⟨fun _ _ e => e, fun _ _ e => (nomatch e), fun _ _ e => (nomatch e), rfl, rfl⟩ (.cons (.ref _) .nil)
  refine wpAny_mono this ?_ fun _ _ z => z
  rintro v s' ⟨x, σ', rfl, r, S, e⟩
  cases r
  exact ⟨rfl, S.base, S.os, S.gens.trans gens⟩
end
end Mine

open PySem PySem.W PySem.SeqAt PyProof.Rows
set_option Elab.async false
set_option maxRecDepth 100000
set_option maxHeartbeats 8000000
set_option linter.unusedVariables false
set_option linter.unusedSimpArgs false
open_top hd for PySem.Challenge.rw_uf030038_01
namespace Mine
variable {C : Cx} {A : Around} {σ : Store} {X : XP}
local macro_rules | `(tactic| walk_at "mK") => do let h := Lean.mkIdent `hK; `(tactic| (rw [$h:ident]; k_is))
local macro_rules | `(tactic| walk_at "mne") => `(tactic| exact ofS_ne (by decide))
local macro_rules | `(tactic| walk_at "mget") => `(tactic| first
  | with_reducible exact Rho.get_hit
  | with_reducible exact Rho.gp_hit
  | with_reducible assumption
  | ((with_reducible refine' Rho.get_miss ?k0 ?k1); (case k0 => walk_at "mne"); (case k1 => walk_at "mget"))
  | ((with_reducible refine' Rho.gp_miss ?k0 ?k1); (case k0 => walk_at "mne"); (case k1 => walk_at "mget")))
local macro_rules | `(tactic| walk_at "mput") => `(tactic| first
  | with_reducible exact Rho.put_hit
  | with_reducible exact Rho.put_nil
  | ((with_reducible refine' Rho.put_miss ?k0 ?k1); (case k0 => walk_at "mne"); (case k1 => walk_at "mput"))
  | with_reducible exact rfl)
local macro_rules | `(tactic| walk_at "mcapt") => `(tactic| first
  | exact Capt.nil
  | ((with_reducible refine' Capt.take ?k0 ?k1); (case k0 => walk_at "mget"); (case k1 => walk_at "mcapt"))
  | ((with_reducible refine' Capt.skip ?k0 ?k1); (case k0 => decide); (case k1 => walk_at "mcapt")))
local macro_rules | `(tactic| walk_at "mvr") => `(tactic| first | exact VR.ref _ | exact VR.int _ _ | exact VR.str _ _ | exact VR.typ _ | exact VR.blt _ | exact VR.bool _ | exact VR.none)
local macro_rules | `(tactic| walk_at "mname") => `(tactic| first
  | ((with_reducible refine' Ev.nloc ?k0 ?k1 ?_ ?k3); (case k0 => decide +kernel); (case k1 => walk_at "mget"); (case k3 => kernel_rfl))
  | ((with_reducible refine' Ev.ncel ?k0 ?k1 ?_ ?k3 ?k4); (case k0 => decide +kernel); (case k1 => walk_at "mget"); (case k3 => kernel_rfl); (case k4 => kernel_rfl))
  | ((with_reducible refine' Ev.nglob ?k0 ?k1 ?k2 ?_ ?k4); (case k0 => decide +kernel); (case k1 => walk_at "mK"); (case k2 => walk_at "mvr"); (case k4 => kernel_rfl))
  | ((with_reducible refine' Ev.nblt ?k0 ?k1 ?k2 ?k3 ?_ ?k5 ?k6); (case k0 => decide +kernel); (case k1 => walk_at "mK"); (case k2 => boot_by_name); (case k3 => walk_at "mvr"); (case k5 => decide); (case k6 => kernel_rfl)))
local macro_rules | `(tactic| walk_at "mcomp") => `(tactic| ((with_reducible refine' Ev.lcomp ?k0 ?k1 ?k2 ?k3 ?_ ?k5 ?k6); (case k0 => walk_at "mcapt"); (case k1 => decide +kernel); (case k2 => decide +kernel); (case k3 => rfl); (case k5 => kernel_rfl); (case k6 => intro _; kernel_rfl)))
local macro_rules | `(tactic| walk_at "msz") => `(tactic| exact small_le rfl)
local macro_rules | `(tactic| walk_at "mnea") => `(tactic| first | with_reducible assumption | exact Ne.symm (by with_reducible assumption))
local macro_rules | `(tactic| walk_at "mst") => `(tactic| first
  | with_reducible exact Store.hit
  | with_reducible assumption
  | ((with_reducible refine' Store.miss ?k0 ?k1); (case k0 => walk_at "mnea"); (case k1 => walk_at "mst"))
  | ((with_reducible refine' Store.at_fresh ?k0 ?k1); (case k0 => walk_at "mst"); (case k1 => walk_at "mst")))
local macro_rules | `(tactic| walk_at "mty") => `(tactic| ((with_reducible refine' TyGo.mk ?k0 ?_); (case k0 => first | exact TyV.str | ((with_reducible refine' TyV.list ?h); (case h => walk_at "mst")) | ((with_reducible refine' TyV.sd ?h); (case h => walk_at "mst")) | ((with_reducible refine' TyV.id ?h); (case h => walk_at "mst")))))
local macro_rules | `(tactic| walk_at "mom") => `(tactic| first | omega | (simp only [List.length_map, List.length_append, List.length_reverse, List.length_cons, List.length_nil, sizeLine_eq] at *; omega) | (simp [sizeLine_eq] at *; omega))
local macro_rules | `(tactic| walk_at "msput") => `(tactic| first
  | with_reducible exact sput_nil
  | with_reducible exact sput_hit)
local macro_rules | `(tactic| walk_at "msget") => `(tactic| first
  | with_reducible exact sget_hit
  | with_reducible assumption
  | with_reducible exact sget_nil)
local macro_rules | `(tactic| walk_at "mlst") => `(tactic| first | ((with_reducible refine' LstAt.st ?h); (case h => walk_at "mst")) | with_reducible assumption)
local macro_rules | `(tactic| walk_at "mhasty") => `(tactic| first
  | exact HasTy.none
  | exact HasTy.bool _
  | exact HasTy.int _
  | exact HasTy.str _
  | exact HasTy.tup _
  | ((with_reducible refine' HasTy.list ?k0); (case k0 => walk_at "mlst"))
  | ((with_reducible refine' HasTy.sd ?k0); (case k0 => walk_at "mst"))
  | ((with_reducible refine' HasTy.id ?k0); (case k0 => walk_at "mst")))
local macro_rules | `(tactic| walk_at "mhasty") => `(tactic| first
  | exact HasTy.none
  | exact HasTy.bool _
  | exact HasTy.int _
  | exact HasTy.str _
  | exact HasTy.tup _
  | ((with_reducible refine' HasTy.list ?k0); (case k0 => walk_at "mlst"))
  | ((with_reducible refine' HasTy.sd ?k0); (case k0 => walk_at "mst"))
  | ((with_reducible refine' HasTy.id ?k0); (case k0 => walk_at "mst")))
local macro_rules | `(tactic| walk_at "masg") => `(tactic| first
  | ((with_reducible refine' Asg.nloc ?k0 ?k1 ?_ ?k3); (case k0 => decide +kernel); (case k1 => walk_at "mput"); (case k3 => kernel_rfl))
  | ((with_reducible refine' Asg.ncel ?k0 ?k1 ?_ ?k3); (case k0 => decide +kernel); (case k1 => walk_at "mput"); (case k3 => kernel_rfl)))
local macro_rules | `(tactic| walk_at "mobj") => `(tactic| first
  | walk_at "mname")
local macro_rules | `(tactic| walk_at "mpop") => `(tactic| first
  | (((with_reducible refine' Ev.bmeth F.plainAttrs_list F.slot_list_pop F.type_list_pop ?_ ?k1 ?k2 ?k3 ?k4); (case k1 => kernel_rfl); (case k2 => kernel_rfl); (case k3 => kernel_rfl); (case k4 => kernel_rfl)); walk_at "mobj"; walk_at "mty")
  | (((with_reducible refine' Ev.bmeth F.plainAttrs_dict F.slot_dict_pop F.type_dict_pop ?_ ?k1 ?k2 ?k3 ?k4); (case k1 => kernel_rfl); (case k2 => kernel_rfl); (case k3 => kernel_rfl); (case k4 => kernel_rfl)); walk_at "mobj"; walk_at "mty"))
local macro_rules | `(tactic| walk_at "mmeth") => `(tactic| first
  | walk_at "mpop"
  | ((with_reducible refine' Ev.bmeth F.plainAttrs_list F.slot_list_append F.type_list_append ?_ ?k1 ?k2 ?k3 ?k4); (case k1 => kernel_rfl); (case k2 => kernel_rfl); (case k3 => kernel_rfl); (case k4 => kernel_rfl))
  | ((with_reducible refine' Ev.bmeth F.plainAttrs_list F.slot_list_remove F.type_list_remove ?_ ?k1 ?k2 ?k3 ?k4); (case k1 => kernel_rfl); (case k2 => kernel_rfl); (case k3 => kernel_rfl); (case k4 => kernel_rfl))
  | ((with_reducible refine' Ev.bmeth F.plainAttrs_list F.slot_list_clear F.type_list_clear ?_ ?k1 ?k2 ?k3 ?k4); (case k1 => kernel_rfl); (case k2 => kernel_rfl); (case k3 => kernel_rfl); (case k4 => kernel_rfl))
  | ((with_reducible refine' Ev.bmeth F.plainAttrs_list F.slot_list_reverse F.type_list_reverse ?_ ?k1 ?k2 ?k3 ?k4); (case k1 => kernel_rfl); (case k2 => kernel_rfl); (case k3 => kernel_rfl); (case k4 => kernel_rfl))
  | ((with_reducible refine' Ev.bmeth F.plainAttrs_str F.slot_str_join F.type_str_join ?_ ?k1 ?k2 ?k3 ?k4); (case k1 => kernel_rfl); (case k2 => kernel_rfl); (case k3 => kernel_rfl); (case k4 => kernel_rfl))
  | ((with_reducible refine' Ev.bmeth F.plainAttrs_list F.slot_list_insert F.type_list_insert ?_ ?k1 ?k2 ?k3 ?k4); (case k1 => kernel_rfl); (case k2 => kernel_rfl); (case k3 => kernel_rfl); (case k4 => kernel_rfl))
  | ((with_reducible refine' Ev.bmeth F.plainAttrs_list F.slot_list_index F.type_list_index ?_ ?k1 ?k2 ?k3 ?k4); (case k1 => kernel_rfl); (case k2 => kernel_rfl); (case k3 => kernel_rfl); (case k4 => kernel_rfl))
  | ((with_reducible refine' Ev.bmeth F.plainAttrs_list F.slot_list_count F.type_list_count ?_ ?k1 ?k2 ?k3 ?k4); (case k1 => kernel_rfl); (case k2 => kernel_rfl); (case k3 => kernel_rfl); (case k4 => kernel_rfl))
  | ((with_reducible refine' Ev.bmeth F.plainAttrs_str F.slot_str_upper F.type_str_upper ?_ ?k1 ?k2 ?k3 ?k4); (case k1 => kernel_rfl); (case k2 => kernel_rfl); (case k3 => kernel_rfl); (case k4 => kernel_rfl)))
local macro_rules | `(tactic| walk_at "mcall") => `(tactic| first
  | ((with_reducible refine' Ev.callR ?_ ?k1 ?k2); (case k1 => kernel_rfl); (case k2 => kernel_rfl); walk_at "mname"; refine' ⟨_, rfl, ?k3, ?_⟩; (case k3 => walk_at "mK"))
  | ((with_reducible refine' Ev.callB ?_ ?k1 ?k2); (case k1 => kernel_rfl); (case k2 => kernel_rfl); walk_at "mname"; first | refine' ⟨_, .inl ⟨rfl, ?_⟩⟩ | refine' ⟨_, .inr ⟨rfl, ?_⟩⟩))
local macro_rules | `(tactic| walk_at "mev") => `(tactic| first
  | walk_at "mname"
  | ((with_reducible refine' Ev.cint ?_))
  | ((with_reducible refine' Ev.cstr ?_))
  | ((with_reducible refine' Ev.cbool ?_))
  | ((with_reducible refine' Ev.cnone ?_))
  | ((with_reducible refine' Ev.bin ?_))
  | ((with_reducible refine' Ev.cmp ?_ ?k1); (case k1 => kernel_rfl))
  | ((with_reducible refine' Ev.slice ?_))
  | ((with_reducible refine' Ev.sub ?_))
  | ((with_reducible refine' Ev.tuple ?_))
  | walk_at "mmeth"
  | walk_at "mcall"
  | ((with_reducible refine' Ev.un ?_))
  | ((with_reducible refine' Ev.chain ?_ ?k1); (case k1 => kernel_rfl))
  | ((with_reducible refine' Ev.boolop ?_))
  | ((with_reducible refine' Ev.list ?_))
  | walk_at "mcomp"
  | walk_at "mdict")
local macro_rules | `(tactic| walk_at "mex") => `(tactic| first
  | ((with_reducible refine' Ex.ret ?_))
  | ((with_reducible refine' Ex.ite ?_))
  | walk_at "mcompA"
  | ((with_reducible refine' Ex.assign ?_ ?k1 ?k2 ?k3); (case k1 => kernel_rfl); (case k2 => kernel_rfl); (case k3 => kernel_rfl)))
local macro_rules | `(tactic| walk_at "m") => `(tactic| first
  | ((with_reducible refine' is.ev ?_); first | walk_at "mev")
  | ((with_reducible refine' is.exs ?_); first | ((with_reducible refine' Exs.cons ?_)) | ((with_reducible refine' Exs.nil ?_)))
  | ((with_reducible refine' is.thn ?_); first | ((with_reducible refine' Then.next ?_)) | ((with_reducible refine' Then.ret ?_)))
  | ((with_reducible refine' is.ags ?_); first | ((with_reducible refine' Ags.cons ?_ ?k1); (case k1 => kernel_rfl)) | ((with_reducible refine' Ags.nil ?_)))
  | ((with_reducible refine' is.cmp ?_); first | ((with_reducible refine' CmpWP.eq_int ?_)) | ((with_reducible refine' CmpWP.ne_int ?_)) | ((with_reducible refine' CmpWP.lt_int ?_)) | ((with_reducible refine' CmpWP.le_int ?_)) | ((with_reducible refine' CmpWP.ge_int ?_)) | ((with_reducible refine' CmpWP.eq_str ?_)) | ((with_reducible refine' CmpWP.inStr ?_)))
  | ((with_reducible refine' is.tst ?_); first | ((with_reducible refine' Tst.cmp ?_ ?k1); (case k1 => kernel_rfl)) | ((with_reducible refine' Tst.not ?_)) | ((with_reducible refine' Tst.boolop ?_)) | ((with_reducible refine' Tst.chain ?_ ?k1); (case k1 => kernel_rfl)) | ((with_reducible refine' Tst.val ?_ ?k1); (case k1 => kernel_rfl)))
  | ((with_reducible refine' is.ex ?_); first | walk_at "mex")
  | ((with_reducible refine' is.asg ?_); first | walk_at "masg")
  | ((with_reducible refine' is.bin ?_); first | ((with_reducible refine' BinWP.add_int ?_)) | ((with_reducible refine' BinWP.mul_int ?_ ?k1); (case k1 => first | exact intMul_l (by decide) (by decide) | exact intMul_r (by decide) (by decide) | exact intMul_l (by omega) (by omega) | exact intMul_r (by omega) (by omega))) | ((with_reducible refine' BinWP.fmod_int ?k0 ?_); (case k0 => decide)) | ((with_reducible refine' BinWP.fdiv_int ?k0 ?k1 ?_); (case k0 => decide); (case k1 => decide)))
  | ((with_reducible refine' is.tru ?_); first | ((with_reducible refine' TruWP.bool ?_)))
  | ((with_reducible refine' is.call ?_); first | ((with_reducible refine' isi_t ?k0 ?k1 ?k2 ?_); (case k0 => walk_at "mhasty"); (case k1 => decide); (case k2 => rfl)) | ((with_reducible refine' BltWP.len_list ?k0 ?k1 ?_); (case k0 => walk_at "mlst"); (case k1 => walk_at "mom")) | ((with_reducible refine' CallWP.range1 ?_)))
  | ((with_reducible refine' Br.t ?k0 ?_); (case k0 => rfl))
  | ((with_reducible refine' Br.f ?k0 ?_); (case k0 => rfl))
  | ((with_reducible refine' Br.t ?k0 ?_); (case k0 => decide +kernel))
  | ((with_reducible refine' Br.f ?k0 ?_); (case k0 => decide +kernel))
  | ((with_reducible refine' Br.t ?k0 ?_); (case k0 => (simp; done)))
  | ((with_reducible refine' Br.f ?k0 ?_); (case k0 => (simp; done)))
  | walk_at "mty"
  | ((with_reducible refine' Szs.mk ?k0 ?_); (case k0 => walk_at "msz"))
  | ((with_reducible refine' AllT.and_cons ?_))
  | ((with_reducible refine' AllT.or_cons ?_))
  | ((with_reducible refine' AllT.and_nil ?_))
  | ((with_reducible refine' AllT.or_nil ?_))
  | ((with_reducible refine' BoolE.one ?_))
  | ((with_reducible refine' BoolE.and ?_))
  | ((with_reducible refine' Ifs.nil ?_))
  | ((with_reducible refine' UnWP.not ?_))
  | ((with_reducible refine' Prt.none ?_))
  | ((with_reducible refine' Prt.some ?_))
  | ((with_reducible refine' Src.of ?_)))
local macro_rules | `(tactic| walk_at "mdef0") => `(tactic| (refine' CallWP.def0  ?k1 ?k2 ?k3 ?k4 ?k5 ?k6 ?k7 ?k8 ?k9 ?k10 ?_; (case k1 => walk_at "mK"); (case k2 => walk_at "mK"); (case k3 => assumption); (case k4 => with_unfolding_all rfl); (case k5 => decide +kernel); (case k6 => decide +kernel); (case k7 => decide +kernel); (case k8 => rfl); (case k9 => rfl); (case k10 => rfl)))
local macro_rules | `(tactic| walk_at "mdef1") => `(tactic| (refine' CallWP.def1 _ ?k1 ?k2 ?k3 ?k4 ?k5 ?k6 ?k7 ?k8 ?k9 ?k10 ?_; (case k1 => walk_at "mK"); (case k2 => walk_at "mK"); (case k3 => assumption); (case k4 => intro _; with_unfolding_all rfl); (case k5 => decide +kernel); (case k6 => decide +kernel); (case k7 => decide +kernel); (case k8 => rfl); (case k9 => rfl); (case k10 => rfl)))
local macro_rules | `(tactic| walk_at "mdef2") => `(tactic| (refine' CallWP.def2 _ _ ?k1 ?k2 ?k3 ?k4 ?k5 ?k6 ?k7 ?k8 ?k9 ?k10 ?_; (case k1 => walk_at "mK"); (case k2 => walk_at "mK"); (case k3 => assumption); (case k4 => intro _ _; with_unfolding_all rfl); (case k5 => decide +kernel); (case k6 => decide +kernel); (case k7 => decide +kernel); (case k8 => rfl); (case k9 => rfl); (case k10 => rfl)))
local macro_rules | `(tactic| walk_at "mdef3") => `(tactic| (refine' CallWP.def3 _ _ _ ?k1 ?k2 ?k3 ?k4 ?k5 ?k6 ?k7 ?k8 ?k9 ?k10 ?_; (case k1 => walk_at "mK"); (case k2 => walk_at "mK"); (case k3 => assumption); (case k4 => intro _ _ _; with_unfolding_all rfl); (case k5 => decide +kernel); (case k6 => decide +kernel); (case k7 => decide +kernel); (case k8 => rfl); (case k9 => rfl); (case k10 => rfl)))
local macro_rules | `(tactic| walk_at "mdef4") => `(tactic| (refine' CallWP.def4 _ _ _ _ ?k1 ?k2 ?k3 ?k4 ?k5 ?k6 ?k7 ?k8 ?k9 ?k10 ?_; (case k1 => walk_at "mK"); (case k2 => walk_at "mK"); (case k3 => assumption); (case k4 => intro _ _ _ _; with_unfolding_all rfl); (case k5 => decide +kernel); (case k6 => decide +kernel); (case k7 => decide +kernel); (case k8 => rfl); (case k9 => rfl); (case k10 => rfl)))
local macro_rules | `(tactic| walk_at "mdef5") => `(tactic| (refine' CallWP.def5 _ _ _ _ _ ?k1 ?k2 ?k3 ?k4 ?k5 ?k6 ?k7 ?k8 ?k9 ?k10 ?_; (case k1 => walk_at "mK"); (case k2 => walk_at "mK"); (case k3 => assumption); (case k4 => intro _ _ _ _ _; with_unfolding_all rfl); (case k5 => decide +kernel); (case k6 => decide +kernel); (case k7 => decide +kernel); (case k8 => rfl); (case k9 => rfl); (case k10 => rfl)))
local macro_rules | `(tactic| walk_at "mdef6") => `(tactic| (refine' CallWP.def6 _ _ _ _ _ _ ?k1 ?k2 ?k3 ?k4 ?k5 ?k6 ?k7 ?k8 ?k9 ?k10 ?_; (case k1 => walk_at "mK"); (case k2 => walk_at "mK"); (case k3 => assumption); (case k4 => intro _ _ _ _ _ _; with_unfolding_all rfl); (case k5 => decide +kernel); (case k6 => decide +kernel); (case k7 => decide +kernel); (case k8 => rfl); (case k9 => rfl); (case k10 => rfl)))
local macro_rules | `(tactic| walk_at "mdef7") => `(tactic| (refine' CallWP.def7 _ _ _ _ _ _ _ ?k1 ?k2 ?k3 ?k4 ?k5 ?k6 ?k7 ?k8 ?k9 ?k10 ?_; (case k1 => walk_at "mK"); (case k2 => walk_at "mK"); (case k3 => assumption); (case k4 => intro _ _ _ _ _ _ _; with_unfolding_all rfl); (case k5 => decide +kernel); (case k6 => decide +kernel); (case k7 => decide +kernel); (case k8 => rfl); (case k9 => rfl); (case k10 => rfl)))
local macro_rules | `(tactic| walk_at "mdefC1") => `(tactic| (refine' CodC.def1 _ ?k1 ?k2 ?k3 ?k4 ?k5 ?k6 ?k7 ?k8 ?k9 ?k10 ?_; (case k1 => walk_at "mK"); (case k2 => walk_at "mK"); (case k3 => assumption); (case k4 => intro _; with_unfolding_all rfl); (case k5 => decide +kernel); (case k6 => decide +kernel); (case k7 => decide +kernel); (case k8 => rfl); (case k9 => rfl); (case k10 => rfl)))
local macro_rules | `(tactic| walk_at "mdefC3") => `(tactic| (refine' CodC.def3 _ _ _ ?k1 ?k2 ?k3 ?k4 ?k5 ?k6 ?k7 ?k8 ?k9 ?k10 ?_; (case k1 => walk_at "mK"); (case k2 => walk_at "mK"); (case k3 => assumption); (case k4 => intro _ _ _; with_unfolding_all rfl); (case k5 => decide +kernel); (case k6 => decide +kernel); (case k7 => decide +kernel); (case k8 => rfl); (case k9 => rfl); (case k10 => rfl)))
theorem c_told (hK : C.K = hd.heap_39 C.w.params) {l : Addr} {cs : List Int} {i : Nat} {Q : V → Store → Prop} (hr : A.depth < recursionLimit) (hh : A.handled = none) (hl : LstAt C σ l (cs.map V.int)) (hz : cs.length ≤ 1000) (hi : i ≤ 1000) (h : Q (.int (cs.getD i 0)) σ) : CallWP C A (.ref 113) [.ref l, .int i] σ Q X := by
  walk_at "mdef2"
  intro L A' a1 a2 a3
  have hh' : A'.handled = none := a1.trans hh
  repeat walk_at "m"
  by_cases q : i < cs.length
  · refine Br.f (by simp; omega) ?_
    repeat walk_at "m"
    refine ItemWP.list (y := .int (cs.getD i 0)) hl (by omega) (by omega) (by simp [q]) ?_
    repeat walk_at "m"
    exact h
  · refine Br.t (by simp; omega) ?_
    repeat walk_at "m"
    have e : cs.getD i 0 = 0 := by simp [Nat.le_of_not_lt q]
    rw [e] at h; exact h
theorem c_letters (hK : C.K = hd.heap_39 C.w.params) {Q : V → Store → Prop} (hr : A.depth < recursionLimit) (h : Q (.str (Str.ofString "abcdefghijklmnopqrstuvwxyz")) σ) : CallWP C A (.ref 120) [] σ Q X := by
  walk_at "mdef0"
  intro L A' a1 a2 a3
  repeat walk_at "m"
  exact h
theorem c_whole (hK : C.K = hd.heap_39 C.w.params) {x : V} {t : Ty} {Q : V → Store → Prop} (hr : A.depth < recursionLimit) (ht : HasTy C σ x t) (h : Q (.bool (isiB t "int" && !isiB t "bool")) σ) : CallWP C A (.ref 94) [x] σ Q X := by
  walk_at "mdef1"
  intro L A' a1 a2 a3
  repeat walk_at "m"
  refine isi_t ht (by decide) rfl ?_
  walk_at "m"
  cases q : isiB t "int" with
  | false =>
    rw [q] at h
    repeat walk_at "m"
    exact h
  | true =>
    rw [q] at h
    repeat walk_at "m"
    refine isi_t ht (by decide) rfl ?_
    repeat walk_at "m"
    exact h
def okS (x : Str) : Bool := (x.cps.toList.map fun c => inS (Str.ofString "abcdefghijklmnopqrstuvwxyz") ⟨#[c]⟩).all id
def isW (x : Str) : Bool := (decide (1 ≤ x.length) && decide (x.length ≤ 12)) && okS x
def inAbc : V → V
  | .str c => .bool (inS (Str.ofString "abcdefghijklmnopqrstuvwxyz") c)
  | _ => .none
theorem signs_map {x : Str} : ([] : List V) ++ List.map inAbc (List.filter (fun _ => true) (signsV x)) = (x.cps.toList.map fun c => inS (Str.ofString "abcdefghijklmnopqrstuvwxyz") ⟨#[c]⟩).map V.bool := by
  rw [List.nil_append, List.filter_eq_self.mpr (fun _ _ => rfl), signsV, List.map_map, List.map_map]; rfl
theorem c_isw (hK : C.K = hd.heap_39 C.w.params) {x : Str} {Q : V → Store → Prop} (hr : A.depth < recursionLimit) (hh : A.handled = none) (hz : x.length ≤ 1000) (h : ∀ σ', Grow σ σ' → Q (.bool (isW x)) σ') : CallWP C A (.ref 99) [.str x] σ Q X := by
  walk_at "mdef1"
  intro L A' a1 a2 a3
  have hh' : A'.handled = none := a1.trans hh
  repeat walk_at "m"
  refine CallWP.len_str (by omega) ?_
  repeat walk_at "m"
  by_cases q1 : 1 ≤ x.length
  · refine Br.t (by simp; omega) ?_
    repeat walk_at "m"
    by_cases q2 : x.length ≤ 12
    · have e : isW x = okS x := by simp [isW, q1, q2]
      rw [e] at h
      refine Br.f (by simp; omega) ?_
      repeat walk_at "m"
      refine ⟨_, _, ItV.str hh', fun L' => ?_⟩
      refine CmpL.pure (fun _ => true) inAbc trivial _ _ ?_ ?_ (by simp [signsV, sizeLine_eq]; simp only [Str.length] at hz; omega) ?_
      · intro y hy Q hQ
        repeat walk_at "m"
        exact hQ
      · intro y hy _ Q hQ
        obtain ⟨c, hc, rfl⟩ := List.mem_map.mp hy
        repeat walk_at "m"
        exact hQ
      intro a ha
      rw [signs_map]
      repeat walk_at "m"
      refine CallWP.all hh' (.inl Store.hit) ?_
      repeat walk_at "m"
      exact h _ (Grow.rfl'.fresh ha)
    · have e : isW x = false := by simp [isW, q2]
      rw [e] at h
      refine Br.t (by simp; omega) ?_
      repeat walk_at "m"
      exact h _ Grow.rfl'
  · have e : isW x = false := by simp [isW, q1]
    rw [e] at h
    refine Br.f (by simp; omega) ?_
    repeat walk_at "m"
    exact h _ Grow.rfl'
theorem c_isodd (hK : C.K = hd.heap_39 C.w.params) {x : V} {t : Ty} {Q : V → Store → Prop} (hr : A.depth < recursionLimit) (ht : HasTy C σ x t) (hn : isiB t "str" = false) (h : Q (.bool false) σ) : CallWP C A (.ref 99) [x] σ Q X := by
  walk_at "mdef1"
  intro L A' a1 a2 a3
  repeat walk_at "m"
  refine isi_t ht (by decide) hn ?_
  repeat walk_at "m"
  exact h
theorem c_told2 (hK : C.K = hd.heap_39 C.w.params) {a b : Bool} {Q : V → Store → Prop} (hr : A.depth < recursionLimit) (hu : A.units < 8000) (h : Q (.bool (a == b)) σ) : CallWP C A (.ref 148) [.bool a, .bool b] σ Q X := by
  walk_at "mdef2"
  intro L A' a1 a2 a3
  repeat walk_at "m"
  refine CmpWP.eq_bool (by omega) ?_
  repeat walk_at "m"
  exact h
theorem str_len_append (x y : Str) : (x ++ y).length = x.length + y.length := by
  have := congrArg List.length (cps_append x y)
  simpa [Str.length] using this
theorem upper_fit : Builtin.Str.tooLong (Txt.upper (Str.ofString "abcdefghijklmnopqrstuvwxyz")).length = false := by decide +kernel
theorem c_any (hK : C.K = hd.heap_39 C.w.params) {c : Int} {Q : V → Store → Prop} (hr : A.depth + 1 < recursionLimit) (hh : A.handled = none) (h : ∀ d, Q (.str ⟨#[d]⟩) σ) : CallWP C A (.ref 127) [.int c] σ Q X := by
  have hr1 : A.depth < recursionLimit := by omega
  walk_at "mdef1"
  intro L A' a1 a2 a3
  have hh' : A'.handled = none := a1.trans hh
  have hr' : A'.depth < recursionLimit := by omega
  repeat walk_at "m"
  refine BinWP.add_str ?_ (by decide +kernel)
  generalize hm : Str.ofString _ ++ Str.ofString "0123456789" = marks
  have lm : marks.length = 42 := by rw [← hm]; decide +kernel
  repeat walk_at "m"
  refine c_letters hK hr' ?_
  refine BinWP.add_str ?_ (by rw [lm]; decide +kernel)
  repeat walk_at "m"
  refine c_letters hK hr' ?_
  repeat walk_at "m"
  refine CallWP.upper upper_fit ?_
  have lu : (Txt.upper (Str.ofString "abcdefghijklmnopqrstuvwxyz")).length = 26 := by decide +kernel
  have la : (marks ++ Str.ofString "abcdefghijklmnopqrstuvwxyz").length = 68 := by
    have : (marks ++ Str.ofString "abcdefghijklmnopqrstuvwxyz").length = marks.length + (Str.ofString "abcdefghijklmnopqrstuvwxyz").length := str_len_append _ _
    rw [this, lm]; decide +kernel
  refine BinWP.add_str ?_ (by rw [la, lu]; decide)
  have lz : (marks ++ Str.ofString "abcdefghijklmnopqrstuvwxyz" ++ Txt.upper (Str.ofString "abcdefghijklmnopqrstuvwxyz")).length = 94 := by
    rw [str_len_append, la, lu]
  generalize marks ++ Str.ofString "abcdefghijklmnopqrstuvwxyz" ++ Txt.upper (Str.ofString "abcdefghijklmnopqrstuvwxyz") = sg at *
  repeat walk_at "m"
  refine CallWP.len_str (by omega) ?_
  refine BinWP.fmod_int (by omega) ?_
  have b0 : 0 ≤ c.fmod sg.length := Int.fmod_nonneg_of_pos _ (by omega)
  have b1 : c.fmod sg.length < sg.length := Int.fmod_lt_of_pos _ (by omega)
  have hd : (c.fmod sg.length).toNat < sg.cps.size := (show (c.fmod sg.length).toNat < sg.length by omega)
  refine ItemWP.str (c := sg.cps[(c.fmod sg.length).toNat]) (by omega) (by omega) (by rw [seqIndex_of b0 (by omega)]; simp [hd]) ?_
  repeat walk_at "m"
  exact h _

theorem kindOf_mkE (sc : Scope) (L : Addr) (cells : List (Str × Addr)) (q : Str) (fn : Option Addr) (cd : Value) (fr : Option Addr) (x : Str) : (mkE sc L cells q fn cd fr).kindOf x = sc.names.lookup x := rfl
theorem ek : excKit (hd.heap_39 C.w.params) 37 = true := by kernel_rfl
theorem ek1 : kitOne (hd.heap_39 C.w.params) (.ref 37) (.ref 37) = some true := by kernel_rfl
theorem ek2 : kitOne (hd.heap_39 C.w.params) (.ref 37) (.ref 49) = some false := by kernel_rfl
theorem ek3 : kitOne (hd.heap_39 C.w.params) (.ref 37) (.ref 61) = some false := by kernel_rfl
theorem ek4 : kitOne (hd.heap_39 C.w.params) (.ref 37) (.ref 73) = some false := by kernel_rfl
theorem ek5 : kitOne (hd.heap_39 C.w.params) (.ref 37) (.ref 85) = some false := by kernel_rfl
theorem ek6 : kitOne (hd.heap_39 C.w.params) (.ref 37) (.type "ValueError") = some true := by kernel_rfl
theorem ek7 : exmOne (hd.heap_39 C.w.params) (.ref 37) (.ref 24) = some true := by kernel_rfl
theorem r_need (hK : C.K = hd.heap_39 C.w.params) {l : List Env} {bm : List Value} {newId B initId : String} (O : OwnCls (Str.ofString "NoWord") 37 bm newId C.mg C.h₀) (FB : ExcBaseFacts B newId initId bm) {x : V} {Q : V → Store → Prop} (hr : A.depth + 1 < recursionLimit) (hh : A.handled = none) (hfr : A.frames = some l)
    (hW : ∀ (A' : Around) (Q' : V → Store → Prop), A'.depth < recursionLimit → A'.handled = none → (∀ σ', Grow σ σ' → Q' (.bool false) σ') → CallWP C A' (.ref 99) [x] σ Q' (fun _ _ => False)) : CallR C A l (.ref 106) [x] σ Q 37 := by
  have hr1 : A.depth < recursionLimit := by omega
  refine' CallR.def1 _ ?k1 ?k2 ?k3 ?k4 ?k6 ?k7 ?k8 ?k9 ?k10 hfr ?_
  case k1 => walk_at "mK"
  case k2 => walk_at "mK"
  case k3 => assumption
  case k4 => intro _; with_unfolding_all rfl
  case k6 => decide +kernel
  case k7 => decide +kernel
  case k8 => rfl
  case k9 => rfl
  case k10 => rfl
  intro L A' s₁ a1 a2 a3 S F
  have hh' : A'.handled = none := a1.trans hh
  have hr' : A'.depth < recursionLimit := by omega
  refine body_raise O FB hh' S F ((kindOf_mkE _ _ _ _ _ _ _ _).trans (by decide +kernel)) rfl ?_ (by kernel_rfl) (by kernel_rfl)
  repeat walk_at "m"
  refine hW _ _ hr' hh' fun σ' g => ?_
  repeat walk_at "m"
  trivial
theorem c_kind (hK : C.K = hd.heap_39 C.w.params) {e : Addr} {Q : V → Store → Prop} (hr : A.depth < recursionLimit) (hu : A.units < 8000) (he : σ e = some (.exc 37)) (h : ∀ σ', Q (.int 0) σ') : CallWP C A (.ref 134) [.ref e] σ Q X := by
  walk_at "mdef1"
  intro L A' a1 a2 a3
  repeat walk_at "m"
  refine isi_exc he (hK ▸ ek) (hK ▸ ek1) ?_
  repeat walk_at "m"
  refine isi_exc he (hK ▸ ek) (hK ▸ ek2) ?_
  repeat walk_at "m"
  refine isi_exc he (hK ▸ ek) (hK ▸ ek3) ?_
  repeat walk_at "m"
  intro a ha
  repeat walk_at "m"
  have he1 : (σ.upd a (.list [.bool true, .bool false, .bool false])) e = some (.exc 37) := Store.at_fresh ha he
  refine isi_exc he1 (hK ▸ ek) (hK ▸ ek4) ?_
  repeat walk_at "m"
  refine isi_exc he1 (hK ▸ ek) (hK ▸ ek5) ?_
  repeat walk_at "m"
  intro b hb
  repeat walk_at "m"
  refine BinWP.cat (xs := [.bool true, .bool false, .bool false]) (ys := [.bool false, .bool false]) (.inl (Store.at_fresh hb Store.hit)) (.inl Store.hit) (by decide) ?_
  intro d hd
  have he2 : ((((σ.upd a (.list [.bool true, .bool false, .bool false])).upd b (.list [.bool false, .bool false]))).upd d (.list [.bool true, .bool false, .bool false, .bool false, .bool false])) e = some (.exc 37) := Store.at_fresh hd (Store.at_fresh hb he1)
  have hl : ((((σ.upd a (.list [.bool true, .bool false, .bool false])).upd b (.list [.bool false, .bool false]))).upd d (.list [.bool true, .bool false, .bool false, .bool false, .bool false])) d = some (.list [.bool true, .bool false, .bool false, .bool false, .bool false]) := Store.hit
  show Asg _ _ _ _ _ _ ((((σ.upd a (.list [.bool true, .bool false, .bool false])).upd b (.list [.bool false, .bool false]))).upd d (.list [.bool true, .bool false, .bool false, .bool false, .bool false])) _ _
  generalize ((((σ.upd a (.list [.bool true, .bool false, .bool false])).upd b (.list [.bool false, .bool false]))).upd d (.list [.bool true, .bool false, .bool false, .bool false, .bool false])) = σ2 at *
  repeat walk_at "m"
  refine CallWP.countB (bs := [true, false, false, false, false]) (.inl hl) (by omega) ?_
  repeat walk_at "m"
  refine isi_excT he2 (hK ▸ ek) (hK ▸ ek6) ?_
  repeat walk_at "m"
  refine CallWP.index0 (bs := [false, false, false, false]) (.inl hl) (by omega) ?_
  repeat walk_at "m"
  exact h _
theorem f_refused (hK : C.K = hd.heap_39 C.w.params) (hlo : C.loose) {l : List Env} {bm : List Value} {newId B initId : String} (O : OwnCls (Str.ofString "NoWord") 37 bm newId C.mg C.h₀) (FB : ExcBaseFacts B newId initId bm) {x : V} {Q : V → Store → Prop} (hr : A.depth + 2 < recursionLimit) (hh : A.handled = none) (hu : A.units < 7000) (hfr : A.frames = some l)
    (hW : ∀ (A' : Around) (Q' : V → Store → Prop), A'.depth < recursionLimit → A'.handled = none → (∀ σ', Grow σ σ' → Q' (.bool false) σ') → CallWP C A' (.ref 99) [x] σ Q' (fun _ _ => False)) (h : ∀ σ', Q (.bool true) σ') : CallF C A l (.ref 141) [x] σ Q X := by
  have hr1 : A.depth < recursionLimit := by omega
  refine' CallF.def1 _ ?k1 ?k2 ?k3 ?k4 ?k6 ?k7 ?k8 ?k9 ?k10 hfr ?_
  case k1 => walk_at "mK"
  case k2 => walk_at "mK"
  case k3 => assumption
  case k4 => intro _; with_unfolding_all rfl
  case k6 => decide +kernel
  case k7 => decide +kernel
  case k8 => rfl
  case k9 => rfl
  case k10 => rfl
  intro L A' s₁ a1 a2 a3 a4 S F Fs
  have hh' : A'.handled = none := a1.trans hh
  have hr' : A'.depth + 1 < recursionLimit := by omega
  refine try_body (D := 37) (E := 24) (Q := Q) S F a4 rfl hlo ?_ (hK ▸ ek7) (by walk_at "mK") ((kindOf_mkE _ _ _ _ _ _ _ _).trans (by decide +kernel)) rfl ((kindOf_mkE _ _ _ _ _ _ _ _).trans (by decide +kernel)) ?_ (by kernel_rfl) (by kernel_rfl) (by kernel_rfl) rfl
  · refine wpAny_mono (call_raise (Q := fun _ _ => False) S F (F.frs rfl Fs) ?_ (by kernel_rfl) (by kernel_rfl)) (fun _ _ z => z.mono fun _ _ q => q.elim) fun _ _ z => z
    walk_at "mname"
    refine ⟨_, fun v hp r => by cases r; rfl, Kp.ref (by walk_at "mK"), ?_⟩
    repeat walk_at "m"
    exact r_need hK O FB hr' hh' a4 hW
  · intro e σ1
    have hm1 : (A'.mark (some (.ref e))).depth < recursionLimit := by show A'.depth < recursionLimit; omega
    have hm2 : (A'.mark (some (.ref e))).units < 8000 := by show A'.units < 8000; omega
    generalize A'.mark (some (.ref e)) = A2 at *
    repeat walk_at "m"
    refine c_kind hK hm1 hm2 Store.hit fun σ' => ?_
    repeat walk_at "m"
    exact ⟨_, rfl, h _⟩
theorem c_need (hK : C.K = hd.heap_39 C.w.params) {x : Str} {Q : V → Store → Prop} (hr : A.depth + 1 < recursionLimit) (hh : A.handled = none) (hz : x.length ≤ 1000) (hx : isW x = true) (h : ∀ σ', Grow σ σ' → Q (.str x) σ') : CallWP C A (.ref 106) [.str x] σ Q X := by
  have hr1 : A.depth < recursionLimit := by omega
  walk_at "mdef1"
  intro L A' a1 a2 a3
  have hh' : A'.handled = none := a1.trans hh
  have hr' : A'.depth < recursionLimit := by omega
  repeat walk_at "m"
  refine c_isw hK hr' hh' hz fun σ' g => ?_
  rw [hx]
  repeat walk_at "m"
  exact h _ g

def letS (j : Nat) : Str := ⟨#[97 + j]⟩
theorem let26 : ∀ j, j < 26 → (Str.ofString "abcdefghijklmnopqrstuvwxyz").cps[j]? = some (97 + j) := by decide +kernel
theorem len26 : (Str.ofString "abcdefghijklmnopqrstuvwxyz").length = 26 := by decide +kernel
theorem ItemWP.letter {i : Int} {Q : V → Store → Prop} (h0 : 0 ≤ i) (h1 : i < 26) (h : Q (.str (letS i.toNat)) σ) : ItemWP C A (.str (Str.ofString "abcdefghijklmnopqrstuvwxyz")) (.int i) σ Q X := by
  refine ItemWP.str (by omega) (by omega) ?_ h
  rw [len26, seqIndex_of h0 (by omega)]
  exact let26 _ (by omega)
theorem join1 : ∀ ts : List Str, (∀ y ∈ ts, y.length = 1) → (Str.join Str.empty ts).length = ts.length
  | [], _ => rfl
  | [x], h => h x (.head _)
  | x :: y :: r, h => by
    have ih := join1 (y :: r) fun z hz => h z (.tail _ hz)
    have e : Str.join Str.empty (x :: y :: r) = x ++ Str.empty ++ Str.join Str.empty (y :: r) := rfl
    rw [e, str_len_append, str_len_append, ih, h x (.head _)]
    have : Str.empty.length = 0 := rfl
    simp only [List.length_cons]; omega
theorem joinS_len (f : Nat → Nat) (n : Nat) : (Txt.join Str.empty ((List.range n).map fun i => letS (f i))).length = n := by
  show (Builtin.Str.glued Str.empty _).length = _
  rw [StrLaws.glued_eq_join, join1]
  · simp
  · intro y hy
    obtain ⟨i, _, rfl⟩ := List.mem_map.mp hy
    rfl
theorem cut_len {x : Str} {d k : Nat} (hk : k < x.length) : (Txt.slice x none (some (k : Int)) ++ (⟨#[d]⟩ : Str) ++ Txt.slice x (some ((k : Int) + 1)) none).length = x.length := by
  have hx : x.cps.toList.length = x.length := by simp [Str.length]
  have e1 := congrArg List.length (slice_upto x k (by omega))
  have e2 := congrArg List.length (slice_from x (k + 1) (by omega))
  have l : ∀ y : Str, y.length = y.cps.toList.length := fun y => by simp [Str.length]
  rw [str_len_append, str_len_append, l (Txt.slice x none _), l (Txt.slice x _ none), e1]
  have e3 : (Txt.slice x (some ((k : Int) + 1)) none).cps.toList.length = x.length - (k + 1) := by
    have : ((k + 1 : Nat) : Int) = (k : Int) + 1 := by omega
    rw [← this, e2, List.length_drop, hx]
  rw [e3, List.length_take, hx]
  have : (⟨#[d]⟩ : Str).length = 1 := rfl
  omega
/-- what is no word -/
def OddOk (C : Cx) (σ : Store) (x : V) : Prop := x = .str (Str.ofString "") ∨ ∃ t, HasTy C σ x t ∧ isiB t "str" = false
theorem OddOk.grow {σ σ' : Store} {x : V} (h : OddOk C σ x) (g : Grow σ σ') : OddOk C σ' x := by
  rcases h with h | ⟨t, h, e⟩
  · exact .inl h
  · refine .inr ⟨t, ?_, e⟩
    cases h with
    | none => exact .none
    | bool b => exact .bool b
    | int i => exact .int i
    | str x => exact .str x
    | tup xs => exact .tup xs
    | list hl =>
      rcases hl with hl | hl
      · exact .list (.inl (g _ _ hl))
      · exact .list (.inr hl)
    | sd h => exact .sd (g _ _ h)
    | id h => exact .id (g _ _ h)
theorem OddOk.isw (hK : C.K = hd.heap_39 C.w.params) {x : V} (h : OddOk C σ x) : ∀ (A' : Around) (Q' : V → Store → Prop), A'.depth < recursionLimit → A'.handled = none → (∀ σ', Grow σ σ' → Q' (.bool false) σ') → CallWP C A' (.ref 99) [x] σ Q' (fun _ _ => False) := by
  intro A' Q' hr hh k
  rcases h with rfl | ⟨t, h, e⟩
  · have e : isW (Str.ofString "") = false := by decide +kernel
    exact c_isw hK hr hh (by decide +kernel) fun σ' g => by rw [e]; exact k σ' g
  · exact c_isodd hK hr h e (k _ Grow.rfl')
theorem c_law (hK : C.K = hd.heap_39 C.w.params) (hlo : C.loose) {bm : List Value} {newId B initId : String} (O : OwnCls (Str.ofString "NoWord") 37 bm newId C.mg C.h₀) (FB : ExcBaseFacts B newId initId bm) {l : Addr} {cs : List Int} (hl : BaseL C l (cs.map V.int)) (hn : cs.length ≤ 63) :
    CallWP C callerA (.ref 153) [.ref l] (fun _ => none) (fun v _ => v = .bool true) (fun _ _ => False) := by
  have hr0 : callerA.depth < recursionLimit := by decide
  generalize (fun _ => none : Store) = σ
  refine' CallWP.def1F _ ?k1 ?k2 ?k3 ?k4 ?k5 ?k6 ?k7 ?k8 ?k9 ?k10 ?_
  case k1 => walk_at "mK"
  case k2 => walk_at "mK"
  case k3 => assumption
  case k4 => intro _; with_unfolding_all rfl
  case k5 => decide +kernel
  case k6 => decide +kernel
  case k7 => decide +kernel
  case k8 => rfl
  case k9 => rfl
  case k10 => rfl
  intro L A' a1 a2 a3 a4
  have hh' : A'.handled = none := a1
  have hr' : A'.depth + 2 < recursionLimit := by rw [a2]; decide
  have hr1 : A'.depth < recursionLimit := by omega
  have hr2 : A'.depth + 1 < recursionLimit := by omega
  have hu : A'.units < 7000 := by rw [a3]; decide
  have hcs : cs.length ≤ 1000 := by omega
  repeat walk_at "m"
  refine c_told (i := 0) hK hr1 hh' (.inr hl) hcs (by omega) ?_
  repeat walk_at "m"
  have n0 : 0 ≤ (cs.getD 0 0).fmod 15 := Int.fmod_nonneg_of_pos _ (by omega)
  have n1 : (cs.getD 0 0).fmod 15 < 15 := Int.fmod_lt_of_pos _ (by omega)
  generalize (cs.getD 0 0).fmod 15 = n at *
  refine c_told (i := 1) hK hr1 hh' (.inr hl) hcs (by omega) ?_
  have hb1 : ∃ b, cs.getD 1 0 = b := ⟨_, rfl⟩
  obtain ⟨b, hb⟩ := hb1
  rw [hb]
  repeat walk_at "m"
  have s0 : 0 ≤ (b.fdiv 26).fmod 25 := Int.fmod_nonneg_of_pos _ (by omega)
  have s1 : (b.fdiv 26).fmod 25 < 25 := Int.fmod_lt_of_pos _ (by omega)
  generalize (b.fdiv 26).fmod 25 = st at *
  refine ⟨_, _, ItV.rng hh' (by omega) (by omega) (by omega) (by omega), fun L' => ?_⟩
  refine CmpL.pure (fun _ => true) (fun y => match y with | .int i => .str (letS ((b + i * (1 + st)).fmod 26).toNat) | _ => .none) trivial _ _ ?_ ?_ (by simp [irange, sizeLine_eq]; omega) ?_
  · intro y hy Q hQ
    repeat walk_at "m"
    exact hQ
  · intro y hy _ Q hQ
    obtain ⟨i, hi, rfl⟩ := List.mem_map.mp hy
    have hi15 : i < 15 := by have := List.mem_range.mp hi; omega
    repeat walk_at "m"
    refine c_letters hK hr1 ?_
    repeat walk_at "m"
    refine c_told (i := 1) hK hr1 hh' (.inr hl) hcs (by omega) ?_
    rw [hb]
    repeat walk_at "m"
    exact ItemWP.letter (Int.fmod_nonneg_of_pos _ (by omega)) (Int.fmod_lt_of_pos _ (by omega)) hQ
  intro a ha
  have e1 : ([] : List V) ++ List.map (fun y => match y with | V.int i => .str (letS ((b + i * (1 + st)).fmod 26).toNat) | _ => .none) (List.filter (fun _ => true) (irange 0 n)) = ((List.range n.toNat).map fun (i : Nat) => letS ((b + (0 + (i : Int)) * (1 + st)).fmod 26).toNat).map V.str := by
    rw [List.nil_append, List.filter_eq_self.mpr (fun _ _ => rfl), irange, List.map_map, List.map_map, Int.sub_zero]
    rfl
  rw [e1]
  have hB1 : ∀ y ∈ (List.range n.toNat).map fun (i : Nat) => letS ((b + (0 + (i : Int)) * (1 + st)).fmod 26).toNat, y.length ≤ 1 := fun y hy => by
    obtain ⟨i, _, rfl⟩ := List.mem_map.mp hy
    exact Nat.le_refl 1
  repeat walk_at "m"
  refine CallWP.join (.inl Store.hit) (joinOk_of (B := 1) hB1 (by simp; omega)) ?_
  have ht : (Txt.join (Str.ofString "") ((List.range n.toNat).map fun (i : Nat) => letS ((b + (0 + (i : Int)) * (1 + st)).fmod 26).toNat)).length = n.toNat := joinS_len (fun i => ((b + (0 + (i : Int)) * (1 + st)).fmod 26).toNat) n.toNat
  generalize Txt.join (Str.ofString "") ((List.range n.toNat).map fun (i : Nat) => letS ((b + (0 + (i : Int)) * (1 + st)).fmod 26).toNat) = text at *
  generalize Store.upd σ a _ = σ1
  repeat walk_at "m"
  refine c_told (i := 2) hK hr1 hh' (.inr hl) hcs (by omega) ?_
  generalize cs.getD 2 0 = c2
  iterate 6 walk_at "m"
  refine Exs.cut (fun ρ' σ' => ∃ text : Str, ρ'.get "_law_text" = some (.str text) ∧ ρ'.get "_law_size" = some (.int n) ∧ ρ'.get "_law_script" = some (.ref l) ∧ text.length = n.toNat) ?_ ?_
  · have k0 : 0 ≤ (c2.fdiv 2).fmod 15 := Int.fmod_nonneg_of_pos _ (by omega)
    generalize (c2.fdiv 2).fmod 15 = k at *
    repeat walk_at "m"
    refine c_told (i := 2) hK hr1 hh' (.inr hl) hcs (by omega) ?_
    repeat walk_at "m"
    by_cases q1 : (cs.getD 2 0).fmod 2 = 1
    · refine Br.t (by simpa using q1) ?_
      repeat walk_at "m"
      by_cases q2 : k < n
      · refine Br.t (by simpa using q2) ?_
        obtain ⟨kn, rfl⟩ := Int.eq_ofNat_of_zero_le k0
        have hkn : kn < text.length := by omega
        have l1 := Txt.slice_le text none (some (kn : Int))
        have l2 := Txt.slice_le text (some ((kn : Int) + 1)) none
        repeat walk_at "m"
        refine ⟨_, rfl, ?_⟩
        refine SliceWP.str (by rw [sizeLine_eq]; omega) ?_
        repeat walk_at "m"
        refine c_told (i := 3) hK hr1 hh' (.inr hl) hcs (by omega) ?_
        repeat walk_at "m"
        refine c_any hK hr2 hh' fun d => ?_
        have l3 : (⟨#[d]⟩ : Str).length = 1 := rfl
        refine BinWP.add_str ?_ (by rw [sizeLine_eq]; omega)
        repeat walk_at "m"
        refine ⟨_, rfl, ?_⟩
        repeat walk_at "m"
        refine SliceWP.str (by rw [sizeLine_eq]; omega) ?_
        have l4 := str_len_append (Txt.slice text none (some (kn : Int))) ⟨#[d]⟩
        refine BinWP.add_str ?_ (by rw [sizeLine_eq, l4, l3]; omega)
        repeat walk_at "m"
        exact ⟨rfl, _, by walk_at "mget", by walk_at "mget", by walk_at "mget", (cut_len hkn).trans ht⟩
      · refine Br.f (by simpa using q2) ?_
        repeat walk_at "m"
        exact ⟨rfl, text, by walk_at "mget", by walk_at "mget", by walk_at "mget", ht⟩
    · refine Br.f (by simpa using q1) ?_
      repeat walk_at "m"
      exact ⟨rfl, text, by walk_at "mget", by walk_at "mget", by walk_at "mget", ht⟩
  · rintro ρ' σ' ⟨text, g1, g2, g3, ht⟩
    refine Exs.cut (fun ρ' σ' => ρ'.get "_law_due" = some (.bool (isW text)) ∧ ρ'.get "_law_text" = some (.str text) ∧ ρ'.get "_law_script" = some (.ref l)) ?_ ?_
    · repeat walk_at "m"
      by_cases q1 : 0 < n
      · refine Br.t (by simpa using q1) ?_
        repeat walk_at "m"
        by_cases q2 : n < 13
        · have e : isW text = okS text := by
            unfold isW
            have h1 : decide (1 ≤ text.length) = true := by simp; omega
            have h2 : decide (text.length ≤ 12) = true := by simp; omega
            rw [h1, h2]; rfl
          refine Br.t (by simpa using q2) ?_
          repeat walk_at "m"
          refine ⟨_, _, ItV.str hh', fun L' => ?_⟩
          refine CmpL.pure (fun _ => true) inAbc trivial _ _ ?_ ?_ (by
            have : text.cps.size = n.toNat := ht
            simp [signsV, sizeLine_eq]; omega) ?_
          · intro y hy Q hQ
            repeat walk_at "m"
            exact hQ
          · intro y hy _ Q hQ
            obtain ⟨c, hc, rfl⟩ := List.mem_map.mp hy
            repeat walk_at "m"
            refine c_letters hK hr1 ?_
            repeat walk_at "m"
            exact hQ
          intro a ha
          rw [signs_map]
          repeat walk_at "m"
          refine CallWP.all hh' (.inl Store.hit) ?_
          repeat walk_at "m"
          rw [e]
          unfold okS
          exact ⟨rfl, by walk_at "mget", by walk_at "mget", by walk_at "mget"⟩
        · have e : isW text = false := by
            unfold isW
            have h2 : decide (text.length ≤ 12) = false := by simp; omega
            rw [h2]; simp
          refine Br.f (by simpa using q2) ?_
          repeat walk_at "m"
          rw [e]
          refine ⟨rfl, ?_, by walk_at "mget", by walk_at "mget"⟩
          have : decide (n < 13) = false := by simpa using q2
          rw [this]
          walk_at "mget"
      · have e : isW text = false := by
          unfold isW
          have h2 : decide (1 ≤ text.length) = false := by simp; omega
          rw [h2]; simp
        refine Br.f (by simpa using q1) ?_
        repeat walk_at "m"
        refine Br.f (by simpa using q1) ?_
        repeat walk_at "m"
        rw [e]
        refine ⟨rfl, ?_, by walk_at "mget", by walk_at "mget"⟩
        have : decide (0 < n) = false := by simpa using q1
        rw [this]
        walk_at "mget"
    · clear g1 g2 g3
      rintro ρ'' σ'' ⟨g1, g2, g3⟩
      have hz : text.length ≤ 1000 := by omega
      clear ht n0 n1
      refine Exs.cut (fun ρ' σ' => ρ'.get "_law_due" = some (.bool (isW text)) ∧ ρ'.get "_law_text" = some (.str text) ∧ ρ'.get "_law_script" = some (.ref l) ∧ ∃ x, ρ'.get "_law_odd" = some x ∧ OddOk C σ' x) ?_ ?_
      · repeat walk_at "m"
        intro la hla
        repeat walk_at "m"
        intro lo hlo'
        repeat walk_at "m"
        refine c_told (i := 4) hK hr1 hh' (.inr hl) hcs (by omega) ?_
        repeat walk_at "m"
        have b0 : 0 ≤ (cs.getD 4 0).fmod 7 := Int.fmod_nonneg_of_pos _ (by omega)
        have b1 : (cs.getD 4 0).fmod 7 < 7 := Int.fmod_lt_of_pos _ (by omega)
        generalize (cs.getD 4 0).fmod 7 = j at *
        have pk : ∃ y, ([V.bool true, V.int 5, V.none, V.str (Str.ofString ""), V.tup [V.str (Str.ofString "a")], V.ref la, V.int 0] : List V)[j.toNat]? = some y ∧ OddOk C (((σ''.upd la (.list [V.str (Str.ofString "a"), V.str (Str.ofString "b")])).upd lo (.list [V.bool true, V.int 5, V.none, V.str (Str.ofString ""), V.tup [V.str (Str.ofString "a")], V.ref la, V.int 0]))) y := by
          have hj : j.toNat < 7 := by omega
          match j.toNat, hj with
          | 0, _ => exact ⟨_, rfl, .inr ⟨_, .bool _, rfl⟩⟩
          | 1, _ => exact ⟨_, rfl, .inr ⟨_, .int _, rfl⟩⟩
          | 2, _ => exact ⟨_, rfl, .inr ⟨_, .none, rfl⟩⟩
          | 3, _ => exact ⟨_, rfl, .inl rfl⟩
          | 4, _ => exact ⟨_, rfl, .inr ⟨_, .tup _, rfl⟩⟩
          | 5, _ => exact ⟨_, rfl, .inr ⟨_, .list (.inl (Store.at_fresh hlo' Store.hit)), rfl⟩⟩
          | 6, _ => exact ⟨_, rfl, .inr ⟨_, .int _, rfl⟩⟩
        obtain ⟨y, hy, ho⟩ := pk
        refine ItemWP.list (y := y) (.inl Store.hit) b0 (by omega) hy ?_
        repeat walk_at "m"
        exact ⟨rfl, by walk_at "mget", by walk_at "mget", by walk_at "mget", y, by walk_at "mget", ho⟩
      · clear g1 g2 g3
        rintro ρ3 σ3 ⟨g1, g2, g3, x, g4, ho⟩
        repeat walk_at "m"
        refine c_told (i := 5) hK hr1 hh' (.inr hl) hcs (by omega) ?_
        generalize cs.getD 5 0 = num
        repeat walk_at "m"
        refine c_isw hK hr1 hh' hz fun σ4 g => ?_
        have ho4 := ho.grow g
        repeat walk_at "m"
        refine c_told2 hK hr1 (by omega) ?_
        have et : (isW text == isW text) = true := by simp
        rw [et]
        repeat walk_at "m"
        refine ho4.isw hK _ _ hr1 hh' fun σ5 g5 => ?_
        have ho5 := ho4.grow g5
        repeat walk_at "m"
        refine c_told2 hK hr1 (by omega) ?_
        iterate 4 walk_at "m"
        refine Tst.val ?_ (by kernel_rfl)
        refine Ev.callF ?kf ?_ (by kernel_rfl) (by kernel_rfl)
        case kf => rfl
        walk_at "mname"
        refine ⟨_, fun v hp r => by cases r; rfl, Kp.ref (by walk_at "mK"), ?_⟩
        repeat walk_at "m"
        refine f_refused hK hlo O FB hr' hh' hu (by rw [a4]; rfl) (ho5.isw hK) fun σ6 => ?_
        clear ho ho4 ho5
        repeat walk_at "m"
        have e1 : (isiB .int "int" && !isiB .int "bool") = true := rfl
        have e2 : (isiB .bool "int" && !isiB .bool "bool") = false := rfl
        have e3 : (isiB .str "int" && !isiB .str "bool") = false := rfl
        have e4 : (isiB .none "int" && !isiB .none "bool") = false := rfl
        refine c_whole hK hr1 (.int _) ?_
        rw [e1]
        repeat walk_at "m"
        refine c_told2 hK hr1 (by omega) ?_
        repeat walk_at "m"
        refine c_whole hK hr1 (.bool _) ?_
        rw [e2]
        repeat walk_at "m"
        refine c_told2 hK hr1 (by omega) ?_
        repeat walk_at "m"
        have m0 : 0 ≤ num.fmod 1000 := Int.fmod_nonneg_of_pos _ (by omega)
        have m1 : num.fmod 1000 < 1000 := Int.fmod_lt_of_pos _ (by omega)
        refine CallWP.str_int (by
          have h1 : (num.fmod 1000).natAbs < 2 ^ 10 := by omega
          by_cases z : (num.fmod 1000).natAbs = 0
          · rw [z]; decide
          · have := (Nat.log2_lt z).mpr h1; omega) ?_
        repeat walk_at "m"
        refine c_whole hK hr1 (.str _) ?_
        rw [e3]
        repeat walk_at "m"
        refine c_told2 hK hr1 (by omega) ?_
        repeat walk_at "m"
        refine c_whole hK hr1 .none ?_
        rw [e4]
        repeat walk_at "m"
        refine c_told2 hK hr1 (by omega) ?_
        repeat walk_at "m"
        cases q : isW text with
        | false =>
          refine Br.t (by simp [q]) ?_
          walk_at "m"
          walk_at "m"
          refine Ev.callF ?kf2 ?_ (by kernel_rfl) (by kernel_rfl)
          case kf2 => rfl
          walk_at "mname"
          refine ⟨_, fun v hp r => by cases r; rfl, Kp.ref (by walk_at "mK"), ?_⟩
          repeat walk_at "m"
          refine f_refused hK hlo O FB hr' hh' hu (by rw [a4]; rfl) (fun A2 Q2 hr2 hh2 k => c_isw hK hr2 hh2 hz fun σ' g => by rw [q]; exact k σ' g) fun σ7 => ?_
          repeat walk_at "m"
          rfl
        | true =>
          refine Br.f (by simp [q]) ?_
          repeat walk_at "m"
          refine c_need hK hr2 hh' hz q fun σ7 g => ?_
          repeat walk_at "m"
          exact congrArg V.bool (by simp)

end Mine
theorem PySem.Challenge.cw_uf030038_01_holds : PySem.Challenge.rw_uf030038_01.Holds := by
  refine hd ?_
  intro w s₀ s₁ mg mb G Y fa o pm cd doc dV kV ho hd hcd hD hmg hg args vals as hpre hlay hrd hwl hlo
  have KX := kIn_of Y
  refine Ground.open G ?_
  intro T B D TE TW
  clear ho hd hcd hD
  wrow_args hpre hlay hrd hwl hlo
  rename IntsAre _ _ => hI
  rename s₁.heap.IsList _ _ => hL
  rename ¬ _ < _ => hn
  have hfa : fa = 153 := by
    have e := mg_of (n := Str.ofString "law") (v := .ref 153) KX T.g (by k_is)
    rw [hmg] at e
    cases e; rfl
  subst hfa
  refine wpAny_mono (Mine.glueX KX T hg hL hI ?_) ?_ fun _ _ z => z.elim
  · intro C e1 e2 e3 e4 T2 e5
    subst e2
    obtain ⟨N, OQ, _⟩ := T2.ownAt (x := Str.ofString "NoWord") (newId := "ValueError.__new__") (bm := [.type "ValueError", .type "Exception", .type "BaseException", .type "object"]) (by kernel_rfl)
    have hN : N = 37 := by
      have e := mg_of (n := Str.ofString "NoWord") (v := .ref 37) C.KX C.hg (by rw [e3]; k_is)
      rw [OQ.bound] at e
      cases e; rfl
    subst hN
    exact Mine.c_law e3 e4 OQ.own F.excBase_ValueError e5 (by omega)
  · rintro v s' ⟨rfl, k1, k2, k3⟩
    exact GoodW.toG ⟨.inl ⟨_, .bool true, [], rfl, fun _ => rfl, .bool true, postW_of (X := true == true) (by rfl) (w_eq_bool (w_res rfl) w_lit) rfl, fun _ => ⟨List.nodup_nil, fun a ha => by cases ha⟩⟩, k1, k2, k3⟩

