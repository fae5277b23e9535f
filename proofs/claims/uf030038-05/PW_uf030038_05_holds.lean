import PyProof.Rows.All
import Wide.All
import OpenK.AllK
import Wide.FinOn
import OpenK.KWalk
import PyProof.Cells
import PyProof.CompFree
import PyProof.CompUse
import PyProof.DictCalls
import PyProof.PlainList
import PyProof.Rules3
import PyProof.ListIndex
import PyProof.Rows.Frame
import PyProof.RangeFor
import PyProof.Rules2
import PyProof.PureInt
import PyProof.NoPylong
import PyProof.Rows.RuleB_floordiv
import PyProof.Rows.RuleB_mod
import PyProof.Rows.StrRules
import PyProof.Rows.Chain
import PyProof.Raises
import PyProof.RulesAssignMore
import PyProof.RulesMatch
import PyProof.TupleIter
import PyProof.LetGo
import PyProof.AssignAttr
import OpenK.KMore
import PyProof.CallRoads
import PyProof.CompMap
import PyProof.Walks
import PyProof.RangeIter
import PyProof.P3In
import PyProof.ListTruth
import PyProof.ListIndexNeg
import PyProof.SliceList
import PyProof.FactsAll.list_3
import PyProof.FactsAll.list_4
import PyProof.Rows.Tup
import PyProof.SeqWrite
import PyProof.ReprLoop
import PyProof.IsiPairs
import PyProof.IsiHeapPairs
import PyProof.IsiNone
import PyProof.ListCopy
import PyProof.TupleOfSeq
import PyProof.TupleCall
import PyProof.StrCalls2
import PyProof.ConsumeWalk
import PyProof.Rows.RuleN_abs
import PyProof.Rows.SeqMore
import PyProof.CallStr
import PyProof.StrBlock2
import PyProof.DictDisplay
import PyProof.DictTruth
import OpenK.KLine
import PyProof.DictTable
import PyProof.MeetsSeq
import KE.LcSums
import PyProof.P3Eq
import PyProof.Rows.TupAssign
import KE.KSortTup
import OpenK.KMake
import PyProof.TupleKey
import PyProof.FactsAll.tuple_1
import PyProof.FactsAll.tuple_2
import PyProof.FactsAll.dict_3
import PyProof.MeetsDictList
import PyProof.MinMaxWalk
import KE.KLam
import KE.KNestM
import KE.KSortKey
import PyProof.DefCall
import PyProof.Rows.CallKw2
import PyProof.SliceStr2
import PyProof.StrBlockI
import PyProof.Rows.TopCatch
import PyProof.ExcBaseAll.ValueError
import KE.KTryMore
import KE.KIsAll
import PyProof.ExcAttrAll.ValueError
import PyProof.StrWalks
import PyProof.StrBlock
import PyProof.EqAt
import PyProof.WalksEnum
import PyProof.EnumMake
import PyProof.IsInstanceT
import PyProof.IsiTupleAll
import PyProof.WalkInts
import PyProof.Rows.RuleIs
import PyProof.AutoSeq1
import PyProof.Rows.MinMaxN
import PyProof.EqKinds
import PyProof.FactsAll.dict_1
import PyProof.IsiTupleOf
import PyProof.Rows.TupAdd
import PyProof.Rows.TupMore
import Open.FastRun
import Open.FastT9
import Open.Line
import PySem.Challenge.RW_uf030038_05
set_option autoImplicit false
namespace Mine
open PySem PySem.W

/-- abstract values -/
inductive V where
  | none | bool (b : Bool) | int (i : Int) | str (s : Str) | tup (vs : List V) | rng (a b : Int) | ref (a : Addr) | typ (n : String) | blt (i : String)
  deriving Inhabited

abbrev tupObj (items : Array Value) (n : Nat) : Obj := { cls := .type "tuple", data := .seq items n }

mutual
inductive VR (h : Heap) : Value → V → Prop where
  | none : VR h .none .none
  | bool (b : Bool) : VR h (.bool b) (.bool b)
  | int (i : Int) (t : Tok) : VR h (.int i t) (.int i)
  | str (s : Str) (t : Tok) : VR h (.str s t) (.str s)
  | typ (n : String) : VR h (.type n) (.typ n)
  | blt (i : String) : VR h (.builtin i) (.blt i)
  | ref (a : Addr) : VR h (.ref a) (.ref a)
  | tup {a : Addr} {items : Array Value} {n : Nat} {vs : List V} : h.get? a = some (tupObj items n) → VRs h items.toList vs → VR h (.ref a) (.tup vs)
  | rng {r : Addr} {a b : Int} {t u v : Tok} : IsRange h r a b 1 t u v → VR h (.ref r) (.rng a b)
inductive VRs (h : Heap) : List Value → List V → Prop where
  | nil : VRs h [] []
  | cons {v : Value} {vs : List Value} {x : V} {xs : List V} : VR h v x → VRs h vs xs → VRs h (v :: vs) (x :: xs)
end

/-- objects that nothing changes -/
def Imm (o : Obj) : Prop := (∃ items n, o = tupObj items n) ∨ (∃ vs, o = { cls := .type "range", data := .fields vs }) ∨ (o.cls = .type "code" ∧ ∃ vs, o.data = .fields vs)
theorem Imm.tup (items : Array Value) (n : Nat) : Imm (tupObj items n) := .inl ⟨_, _, rfl⟩
theorem Imm.not {o : Obj} (h1 : o.cls ≠ .type "tuple") (h2 : o.cls ≠ .type "range") (h3 : o.cls ≠ .type "code") : ¬ Imm o := by
  rintro (⟨_, _, rfl⟩ | ⟨_, rfl⟩ | ⟨e, _⟩)
  · exact h1 rfl
  · exact h2 rfl
  · exact h3 e
theorem Imm.notDict {o : Obj} {es : Array DictEntry} {n : Nat} (h : o.data = .dict es n) : ¬ Imm o := by
  rintro (⟨_, _, rfl⟩ | ⟨_, rfl⟩ | ⟨_, _, e⟩)
  · cases h
  · cases h
  · rw [h] at e; cases e
theorem Imm.notCell {o : Obj} {v : Option Value} (h : o.data = .cell v) : ¬ Imm o := by
  rintro (⟨_, _, rfl⟩ | ⟨_, rfl⟩ | ⟨_, _, e⟩)
  · cases h
  · cases h
  · rw [h] at e; cases e
/-- every such object of h stands in h' -/
def TupKeep (h h' : Heap) : Prop := ∀ a o, Imm o → h.get? a = some o → h'.get? a = some o

theorem TupKeep.refl (h : Heap) : TupKeep h h := fun _ _ _ e => e
theorem TupKeep.trans {h1 h2 h3 : Heap} (x : TupKeep h1 h2) (y : TupKeep h2 h3) : TupKeep h1 h3 := fun a i n e => y a i n (x a i n e)

mutual
theorem VR.mono {h h' : Heap} (k : TupKeep h h') {v : Value} {x : V} (r : VR h v x) : VR h' v x := by
  cases r with
  | none => exact .none
  | bool b => exact .bool b
  | int i t => exact .int i t
  | str s t => exact .str s t
  | typ n => exact .typ n
  | blt i => exact .blt i
  | ref a => exact .ref a
  | tup e r => exact .tup (k _ _ (.tup _ _) e) (VRs.mono k r)
  | rng e => exact .rng (k _ _ (.inr (.inl ⟨_, rfl⟩)) e)
theorem VRs.mono {h h' : Heap} (k : TupKeep h h') {v : List Value} {x : List V} (r : VRs h v x) : VRs h' v x := by
  cases r with
  | nil => exact .nil
  | cons a b => exact .cons (VR.mono k a) (VRs.mono k b)
end

theorem VR.intI {h : Heap} {v : Value} {i : Int} (r : VR h v (.int i)) : ∃ t, v = .int i t := by cases r; exact ⟨_, rfl⟩
theorem VR.strI {h : Heap} {v : Value} {x : Str} (r : VR h v (.str x)) : ∃ t, v = .str x t := by cases r; exact ⟨_, rfl⟩
theorem VR.boolI {h : Heap} {v : Value} {b : Bool} (r : VR h v (.bool b)) : v = .bool b := by cases r; rfl
theorem VR.noneI {h : Heap} {v : Value} (r : VR h v .none) : v = .none := by cases r; rfl
theorem VR.refI {h : Heap} {v : Value} {a : Addr} (r : VR h v (.ref a)) : v = .ref a := by cases r; rfl
theorem VR.typI {h : Heap} {v : Value} {n : String} (r : VR h v (.typ n)) : v = .type n := by cases r; rfl
theorem VR.bltI {h : Heap} {v : Value} {n : String} (r : VR h v (.blt n)) : v = .builtin n := by cases r; rfl
theorem VR.tupI {h : Heap} {v : Value} {xs : List V} (r : VR h v (.tup xs)) : ∃ (a : Addr) (items : Array Value) (n : Nat), v = .ref a ∧ h.get? a = some (tupObj items n) ∧ VRs h items.toList xs := by cases r with | tup e r => exact ⟨_, _, _, rfl, e, r⟩
theorem VRs.nilI {h : Heap} {vs : List Value} (r : VRs h vs []) : vs = [] := by cases r; rfl
theorem VRs.consI {h : Heap} {vs : List Value} {x : V} {xs : List V} (r : VRs h vs (x :: xs)) : ∃ u us, vs = u :: us ∧ VR h u x ∧ VRs h us xs := by cases r with | cons a b => exact ⟨_, _, rfl, a, b⟩
theorem VRs.one {h : Heap} {vs : List Value} {x : V} (r : VRs h vs [x]) : ∃ u, vs = [u] ∧ VR h u x := by
  obtain ⟨u, us, rfl, r1, r2⟩ := r.consI
  obtain rfl := r2.nilI
  exact ⟨u, rfl, r1⟩
theorem VRs.two {h : Heap} {vs : List Value} {x y : V} (r : VRs h vs [x, y]) : ∃ u v, vs = [u, v] ∧ VR h u x ∧ VR h v y := by
  obtain ⟨u, us, rfl, r1, r2⟩ := r.consI
  obtain ⟨v, rfl, r3⟩ := r2.one
  exact ⟨u, v, rfl, r1, r3⟩
theorem VRs.three {h : Heap} {vs : List Value} {x y z : V} (r : VRs h vs [x, y, z]) : ∃ u v w, vs = [u, v, w] ∧ VR h u x ∧ VR h v y ∧ VR h w z := by
  obtain ⟨u, us, rfl, r1, r2⟩ := r.consI
  obtain ⟨v, w, rfl, r3, r4⟩ := r2.two
  exact ⟨u, v, w, rfl, r1, r3, r4⟩
theorem VRs.ind {h : Heap} {P : List Value → List V → Prop} (n : P [] []) (c : ∀ {v vs x xs}, VR h v x → VRs h vs xs → P vs xs → P (v :: vs) (x :: xs)) : ∀ {xs : List V} {vs : List Value}, VRs h vs xs → P vs xs := by
  intro xs
  induction xs with
  | nil => intro vs r; obtain rfl := r.nilI; exact n
  | cons x xs ih =>
    intro vs r
    obtain ⟨u, us, rfl, a, b⟩ := r.consI
    exact c a b (ih b)
theorem VRs.length {h : Heap} {v : List Value} {x : List V} (r : VRs h v x) : v.length = x.length := r.ind (P := fun v x => v.length = x.length) rfl fun _ _ ih => congrArg (· + 1) ih

theorem VRs.append {h : Heap} {v : List Value} {x : List V} {v' : List Value} {x' : List V} (r : VRs h v x) (r' : VRs h v' x') : VRs h (v ++ v') (x ++ x') :=
  r.ind (P := fun v x => VRs h (v ++ v') (x ++ x')) r' fun a _ ih => .cons a ih

theorem VRs.get {h : Heap} {v : List Value} {x : List V} (r : VRs h v x) : ∀ {i : Nat} {y : V}, x[i]? = some y → ∃ u, v[i]? = some u ∧ VR h u y := by
  refine r.ind (P := fun v x => ∀ {i : Nat} {y : V}, x[i]? = some y → ∃ u, v[i]? = some u ∧ VR h u y) (fun e => nomatch e) fun a _ ih => ?_
  intro i y e
  cases i with
  | zero => cases e; exact ⟨_, rfl, a⟩
  | succ i => exact ih e

theorem VRs.get' {h : Heap} {v : List Value} {x : List V} (r : VRs h v x) : ∀ {i : Nat} {u : Value}, v[i]? = some u → ∃ y, x[i]? = some y ∧ VR h u y := by
  refine r.ind (P := fun v x => ∀ {i : Nat} {u : Value}, v[i]? = some u → ∃ y, x[i]? = some y ∧ VR h u y) (fun e => nomatch e) fun a _ ih => ?_
  intro i y e
  cases i with
  | zero => cases e; exact ⟨_, rfl, a⟩
  | succ i => exact ih e

/-- the run's surroundings -/
structure Cx where
  prog : Program
  w : World
  h₀ : Heap
  gens : Array GenState
  os : OsState
  n₀ : Nat
  low : ∀ b o, h₀.get? b = some o → b < n₀
  top : ∀ m, n₀ = m + 1 → ∃ o, h₀.get? m = some o
  K : Frag
  KX : K.In h₀
  mg : Str → Option Value
  mb : Str → Option Value
  hg : h₀.Ns mainGlobals mg
  hb : h₀.Ns builtinsNs mb
  blt : ∀ x : Str, x ≠ "__name__" → mb x = bootBuiltins x
  lim : h₀.NoLimit
  tabs : List Addr
  /-- nothing is said of where new objects lie -/
  loose : Prop
abbrev Cx.M (C : Cx) : Model := model C.prog C.w

/-- abstract objects -/
inductive O where
  | list (vs : List V)
  | sd (es : List (Str × V))
  | id (es : List (Int × V))
  | inst (cls dx : Addr)
  | tab (pos : Pos) (q : Str)
  | exc (cls : Addr)

abbrev Store := Addr → Option O
def Store.upd (σ : Store) (a : Addr) (o : O) : Store := fun b => if b = a then some o else σ b
theorem Store.upd_self (σ : Store) (a : Addr) (o : O) : σ.upd a o a = some o := by simp [Store.upd]
theorem Store.upd_ne (σ : Store) {a b : Addr} (o : O) (h : b ≠ a) : σ.upd a o b = σ b := by simp [Store.upd, h]

inductive PR {K : Type} (h : Heap) : List (K × Value) → List (K × V) → Prop
  | nil : PR h [] []
  | cons {k : K} {v : Value} {x : V} {r : List (K × Value)} {r' : List (K × V)} : VR h v x → PR h r r' → PR h ((k, v) :: r) ((k, x) :: r')

theorem PR.mono {K : Type} {h h' : Heap} (k : TupKeep h h') {a : List (K × Value)} {b : List (K × V)} (z : PR h a b) : PR h' a b := by
  induction z with
  | nil => exact .nil
  | cons x _ ih => exact .cons (x.mono k) ih

abbrev instO (C dx : Addr) : Obj := { cls := .ref C, dict := some dx }

def Rep (C : Cx) (h : Heap) (a : Addr) : O → Prop
  | .list vs => ∃ items, h.PlainList a items ∧ VRs h items.toList vs
  | .sd es => ∃ kvs, h.DictOf (strKind C.prog C.w) a kvs ∧ PR h kvs es
  | .id es => ∃ kvs, h.DictOf (intKind C.prog C.w) a kvs ∧ PR h kvs es
  | .inst c dx => h.get? a = some (instO c dx)
  | .tab pos q => h.get? a = some { cls := .none, data := .fields #[] } ∨ ∃ c' o vs t, h.get? a = some { cls := .none, data := .fields #[rawInt pos.line, rawInt pos.col, .ref c'] } ∧ h.get? c' = some o ∧ o.cls = .type "code" ∧ o.data = .fields vs ∧ vs[1]? = some (.str q t)
  | .exc c => ∃ o vs, h.get? a = some o ∧ o.cls = .ref c ∧ o.data = .fields vs

theorem Rep.isSome {C : Cx} {h : Heap} {a : Addr} {o : O} (r : Rep C h a o) : ∃ x, h.get? a = some x ∧ ¬ Imm x := by
  cases o with
  | list vs => obtain ⟨items, ⟨n, e⟩, _⟩ := r; exact ⟨_, e, Imm.not (by simp) (by simp) (by simp)⟩
  | sd es =>
    obtain ⟨kvs, d, _⟩ := r
    obtain ⟨o, es, ep, ho, hx, _⟩ := d
    exact ⟨o, ho, Imm.not (by rw [hx.1]; decide) (by rw [hx.1]; decide) (by rw [hx.1]; decide)⟩
  | id es =>
    obtain ⟨kvs, d, _⟩ := r
    obtain ⟨o, es, ep, ho, hx, _⟩ := d
    exact ⟨o, ho, Imm.not (by rw [hx.1]; decide) (by rw [hx.1]; decide) (by rw [hx.1]; decide)⟩
  | inst c dx => exact ⟨_, r, Imm.not (fun z => by cases z) (fun z => by cases z) (fun z => by cases z)⟩
  | tab pos q =>
    rcases r with e | ⟨c', o, vs, t, e, _⟩
    · exact ⟨_, e, Imm.not (fun z => by cases z) (fun z => by cases z) (fun z => by cases z)⟩
    · exact ⟨_, e, Imm.not (fun z => by cases z) (fun z => by cases z) (fun z => by cases z)⟩
  | exc c =>
    obtain ⟨o, vs, e, hc, _⟩ := r
    exact ⟨o, e, Imm.not (fun z => by rw [hc] at z; cases z) (fun z => by rw [hc] at z; cases z) (fun z => by rw [hc] at z; cases z)⟩

/-- a represented object stands as it stood where it is kept itself and all tuples are -/
theorem Rep.at {C : Cx} {h h' : Heap} {a : Addr} {o : O} (r : Rep C h a o) (k : ∀ x, h.get? a = some x → h'.get? a = some x) (t : TupKeep h h') : Rep C h' a o := by
  cases o with
  | list vs => obtain ⟨items, p, q⟩ := r; exact ⟨items, p.at k, q.mono t⟩
  | sd es =>
    obtain ⟨kvs, d, q⟩ := r
    obtain ⟨o, es', ep, ho, rest⟩ := d
    exact ⟨kvs, ⟨o, es', ep, k _ ho, rest⟩, q.mono t⟩
  | id es =>
    obtain ⟨kvs, d, q⟩ := r
    obtain ⟨o, es', ep, ho, rest⟩ := d
    exact ⟨kvs, ⟨o, es', ep, k _ ho, rest⟩, q.mono t⟩
  | inst c dx => exact k _ r
  | tab pos q =>
    rcases r with e | ⟨c', o, vs, u, e, e2, h1, h2, h3⟩
    · exact .inl (k _ e)
    · exact .inr ⟨c', o, vs, u, k _ e, t _ _ (.inr (.inr ⟨h1, vs, h2⟩)) e2, h1, h2, h3⟩
  | exc c =>
    obtain ⟨o, vs, e, r⟩ := r
    exact ⟨o, vs, k _ e, r⟩

structure St (C : Cx) (σ : Store) (s : Shared) : Prop where
  base : ∀ b o, C.h₀.get? b = some o → s.heap.get? b = some o
  rep : ∀ a o, σ a = some o → Rep C s.heap a o
  above : ∀ a o, σ a = some o → C.h₀.get? a = none ∧ (C.n₀ ≤ a ∨ a ∈ C.tabs ∨ C.loose)
  gens : s.gens = C.gens
  os : s.os = C.os

theorem St.size {C : Cx} {σ : Store} {s : Shared} (S : St C σ s) : C.n₀ ≤ s.heap.objs.size := by
  cases q : C.n₀ with
  | zero => exact Nat.zero_le _
  | succ m =>
    obtain ⟨o, e⟩ := C.top m q
    exact Heap.lt_size (S.base m o e)

/-- an object stands as it stood; a dict (so: a frame) may have other slots -/
def Kept (h' : Heap) (b : Addr) (o : Obj) : Prop := h'.get? b = some o ∨ ((∃ es n, o.data = .dict es n) ∧ ∃ sl, h'.get? b = some { o with slots := sl })
theorem Kept.got {h' : Heap} {b : Addr} {o : Obj} (x : Kept h' b o) : ∃ o', h'.get? b = some o' := by
  rcases x with x | ⟨_, _, x⟩ <;> exact ⟨_, x⟩
theorem Kept.trans {h1 h2 : Heap} {b : Addr} {o : Obj} (x : Kept h1 b o) (k : ∀ o', h1.get? b = some o' → Kept h2 b o') : Kept h2 b o := by
  rcases x with x | ⟨⟨es, n, d⟩, sl, x⟩
  · exact k _ x
  · rcases k _ x with y | ⟨_, sl', y⟩
    · exact .inr ⟨⟨es, n, d⟩, sl, y⟩
    · exact .inr ⟨⟨es, n, d⟩, sl', y⟩
theorem Kept.exact {h' : Heap} {b : Addr} {o : Obj} (x : Kept h' b o) (hn : ∀ es n, o.data ≠ .dict es n) : h'.get? b = some o := by
  rcases x with x | ⟨⟨es, n, d⟩, _⟩
  · exact x
  · exact absurd d (hn es n)
theorem Kept.same {h' : Heap} {b : Addr} {o : Obj} (x : Kept h' b o) : ∃ o', h'.get? b = some o' ∧ o'.data = o.data := by
  rcases x with x | ⟨_, _, x⟩
  · exact ⟨_, x, rfl⟩
  · exact ⟨_, x, rfl⟩
structure Evo (σ : Store) (h : Heap) (σ' : Store) (h' : Heap) : Prop where
  keep : ∀ b o, h.get? b = some o → σ b = none → Kept h' b o
  dom : ∀ b o, σ' b = some o → (∃ o', σ b = some o') ∨ h.get? b = none
  mono : ∀ b o, σ b = some o → ∃ o', σ' b = some o'
  tup : TupKeep h h'

theorem Evo.refl (σ : Store) (h : Heap) : Evo σ h σ h := ⟨fun _ _ e _ => .inl e, fun _ _ e => .inl ⟨_, e⟩, fun _ _ e => ⟨_, e⟩, .refl _⟩
theorem Evo.trans {σ1 σ2 σ3 : Store} {h1 h2 h3 : Heap} (x : Evo σ1 h1 σ2 h2) (y : Evo σ2 h2 σ3 h3) : Evo σ1 h1 σ3 h3 := by
  refine ⟨fun b o e n => ?_, fun b o e => ?_, fun b o e => ?_, x.tup.trans y.tup⟩
  · refine (x.keep b o e n).trans fun o' e' => y.keep b o' e' ?_
    cases q : σ2 b with
    | none => rfl
    | some o2 =>
      rcases x.dom b o2 q with ⟨o', e'⟩ | e'
      · rw [n] at e'; cases e'
      · rw [e] at e'; cases e'
  · rcases y.dom b o e with ⟨o', e'⟩ | e'
    · exact x.dom b o' e'
    · cases q : h1.get? b with
      | none => exact .inr rfl
      | some o1 =>
        left
        cases q' : σ1 b with
        | some o' => exact ⟨o', rfl⟩
        | none =>
          obtain ⟨o', z⟩ := (x.keep b o1 q q').got
          rw [z] at e'; cases e'
  · obtain ⟨o', e'⟩ := x.mono b o e
    exact y.mono b o' e'

/-- raw raised values and states -/
abbrev XP := Value → Shared → Prop

/-- what a tree of values gives -/
inductive EP (C : Cx) (σ : Store) (h : Heap) (Q : V → Store → Prop) (v : Value) (s' : Shared) : Prop
  | mk (x : V) (σ' : Store) (q : Q x σ') (r : VR s'.heap v x) (S : St C σ' s') (e : Evo σ h σ' s'.heap) : EP C σ h Q v s'
/-- a test's end -/
inductive TP (C : Cx) (σ : Store) (h : Heap) (Q : Bool → Store → Prop) (b : Bool) (s' : Shared) : Prop
  | mk (σ' : Store) (q : Q b σ') (S : St C σ' s') (e : Evo σ h σ' s'.heap) : TP C σ h Q b s'

theorem EP.after {C : Cx} {σ σ1 : Store} {h h1 : Heap} {Q : V → Store → Prop} {v : Value} {s' : Shared} (x : EP C σ1 h1 Q v s') (k : Evo σ h σ1 h1) : EP C σ h Q v s' :=
  let ⟨a, b, c, d, e, f⟩ := x; ⟨a, b, c, d, e, k.trans f⟩

/-- names to values -/
abbrev Rho := List (Str × V)
def Rho.get : Rho → Str → Option V
  | [], _ => none
  | (y, v) :: r, x => if x = y then some v else Rho.get r x
def Rho.put : Rho → Str → V → Rho
  | [], x, v => [(x, v)]
  | (y, u) :: r, x, v => if x = y then (x, v) :: r else (y, u) :: Rho.put r x v
theorem Rho.get_hit {x : Str} {v : V} {r : Rho} : Rho.get ((x, v) :: r) x = some v := by simp [Rho.get]
theorem Rho.get_miss {x y : Str} {u : V} {v : Option V} {r : Rho} (h : x ≠ y) (k : Rho.get r x = v) : Rho.get ((y, u) :: r) x = v := by simp [Rho.get, h, k]
theorem Rho.put_nil {x : Str} {v : V} : Rho.put [] x v = [(x, v)] := rfl
theorem Rho.put_hit {x : Str} {u v : V} {r : Rho} : Rho.put ((x, u) :: r) x v = (x, v) :: r := by simp [Rho.put]
theorem Rho.put_miss {x y : Str} {u v : V} {r r' : Rho} (h : x ≠ y) (k : Rho.put r x v = r') : Rho.put ((y, u) :: r) x v = (y, u) :: r' := by simp [Rho.put, h, k]
theorem Rho.get_put (x : Str) (v : V) : ∀ (r : Rho) (y : Str), Rho.get (Rho.put r x v) y = if y = x then some v else Rho.get r y
  | [], y => by simp [Rho.put, Rho.get]
  | (z, u) :: r, y => by
    have ih := Rho.get_put x v r y
    by_cases h : x = z
    · subst h
      simp only [Rho.put, if_true, Rho.get]
      by_cases h2 : y = x <;> simp [h2]
    · simp only [Rho.put, h, if_false, Rho.get]
      by_cases h2 : y = z
      · subst h2; simp [Ne.symm h]
      · simp [h2, ih]

/-- the frame -/
structure Fm (C : Cx) (σ : Store) (h : Heap) (env : Env) (ρ : Rho) : Prop where
  fn : env.scope.kind = .function
  loc : ∃ m, h.Ns env.locals m ∧ ∀ x v, env.kindOf x = some .local → ρ.get x = some v → ∃ u, m x = some u ∧ VR h u v
  locs : σ env.locals = none
  abv : C.n₀ ≤ env.locals
  cell : ∀ x c, env.cells.lookup x = some c → ∃ ov, h.IsCell c ov ∧ (∀ v, ρ.get x = some v → ∃ u, ov = some u ∧ VR h u v) 
  ncell : ∀ x c, env.cells.lookup x = some c → σ c = none ∧ c ≠ env.locals ∧ C.n₀ ≤ c
  apart : ∀ x y c, env.cells.lookup x = some c → env.cells.lookup y = some c → x = y

theorem isCell_at {h h' : Heap} {c : Addr} {v : Option Value} (x : h.IsCell c v) (k : ∀ o, h.get? c = some o → h'.get? c = some o) : h'.IsCell c v := by
  unfold Heap.IsCell at *
  obtain ⟨o, e, r⟩ := x
  exact ⟨o, k _ e, r⟩
theorem isCell_kept {h h' : Heap} {c : Addr} {v : Option Value} (x : h.IsCell c v) (k : ∀ o, h.get? c = some o → Kept h' c o) : h'.IsCell c v := by
  unfold Heap.IsCell at *
  obtain ⟨o, e, r⟩ := x
  obtain ⟨o', e', d⟩ := (k _ e).same
  exact ⟨o', e', d.trans r⟩
theorem ns_kept {h h' : Heap} {L : Addr} {m : Str → Option Value} (x : h.Ns L m) (k : ∀ o, h.get? L = some o → Kept h' L o) : h'.Ns L m := by
  obtain ⟨o, es, ep, ho, hd, rest⟩ := x
  obtain ⟨o', e', d⟩ := (k _ ho).same
  exact ⟨o', es, ep, e', d.trans hd, rest⟩

theorem Fm.evo {C : Cx} {σ σ' : Store} {h h' : Heap} {env : Env} {ρ : Rho} (F : Fm C σ h env ρ) (k : Evo σ h σ' h') : Fm C σ' h' env ρ := by
  obtain ⟨f1, ⟨m, hm, f2⟩, f3, f5, f6, f7, f8⟩ := F
  have hm' := ns_kept hm fun o e => k.keep _ _ e f3
  obtain ⟨o, es, ep, ho, rest⟩ := hm
  have nd : ∀ b o, h.get? b = some o → σ b = none → σ' b = none := fun b o e n => by
    cases q : σ' b with
    | none => rfl
    | some o2 =>
      rcases k.dom b o2 q with ⟨o', e'⟩ | e'
      · rw [n] at e'; cases e'
      · rw [e] at e'; cases e'
  refine ⟨f1, ⟨m, hm', fun x v hx hv => ?_⟩, nd _ _ ho f3, f5, fun x c hc => ?_, fun x c hc => ?_, f8⟩
  · obtain ⟨u, a, b⟩ := f2 x v hx hv
    exact ⟨u, a, b.mono k.tup⟩
  · obtain ⟨ov, a, b⟩ := f6 x c hc
    obtain ⟨n1, _, _⟩ := f7 x c hc
    refine ⟨ov, isCell_kept a fun o e => k.keep _ _ e n1, fun v hv => ?_⟩
    obtain ⟨u, p, q⟩ := b v hv
    exact ⟨u, p, q.mono k.tup⟩
  · obtain ⟨n1, n2, n3⟩ := f7 x c hc
    obtain ⟨ov, a, b⟩ := f6 x c hc
    have a' := a
    unfold Heap.IsCell at a'
    obtain ⟨o, e, _⟩ := a'
    exact ⟨nd _ _ e n1, n2, n3⟩

/-- an expression's evaluation -/
def Ev (C : Cx) (A : Around) (env : Env) (e : Expr) (ρ : Rho) (σ : Store) (Q : V → Store → Prop) (X : XP) : Prop :=
  ∀ s, St C σ s → Fm C σ s.heap env ρ → wpAny C.M A (eval e env) (EP C σ s.heap Q) X s

/-- a test -/
def Tst (C : Cx) (A : Around) (env : Env) (e : Expr) (ρ : Rho) (σ : Store) (Q : Bool → Store → Prop) (X : XP) : Prop :=
  ∀ s, St C σ s → Fm C σ s.heap env ρ → wpAny C.M A (isTrue e env (eval e env)) (TP C σ s.heap Q) X s

def BinWP (C : Cx) (A : Around) (op : Operator) (x y : V) (σ : Store) (Q : V → Store → Prop) (X : XP) : Prop :=
  ∀ s a b, St C σ s → VR s.heap a x → VR s.heap b y → wpAny C.M A (binaryOp op a b) (EP C σ s.heap Q) X s
def CmpWP (C : Cx) (A : Around) (op : CmpOp) (x y : V) (σ : Store) (Q : V → Store → Prop) (X : XP) : Prop :=
  ∀ s a b, St C σ s → VR s.heap a x → VR s.heap b y → wpAny C.M A (compareOp op a b) (EP C σ s.heap Q) X s
def UnWP (C : Cx) (A : Around) (op : UnaryOp) (x : V) (σ : Store) (Q : V → Store → Prop) (X : XP) : Prop :=
  ∀ s a, St C σ s → VR s.heap a x → wpAny C.M A (unaryOp op a) (EP C σ s.heap Q) X s
def TruWP (C : Cx) (A : Around) (x : V) (σ : Store) (Q : Bool → Store → Prop) (X : XP) : Prop :=
  ∀ s a, St C σ s → VR s.heap a x → wpAny C.M A (truthy a) (TP C σ s.heap Q) X s

section
variable {C : Cx} {A : Around} {env : Env} {ρ : Rho} {σ : Store} {X : XP}

theorem Ev.bin {l r : Expr} {op : Operator} {pos : Pos} {Q : V → Store → Prop}
    (h : Ev C A env l ρ σ (fun x σ1 => Ev C A env r ρ σ1 (fun y σ2 => BinWP C A op x y σ2 Q X) X) X) : Ev C A env (.BinOp l op r pos) ρ σ Q X := by
  intro s S F
  refine wpAny_BinOp (wpAny_mono (h s S F) ?_ fun _ _ z => z)
  rintro a s1 ⟨x, σ1, h1, r1, S1, e1⟩
  refine wpAny_mono (h1 s1 S1 (F.evo e1)) ?_ fun _ _ z => z
  rintro b s2 ⟨y, σ2, h2, r2, S2, e2⟩
  exact wpAny_mono (h2 s2 a b S2 (r1.mono e2.tup) r2) (fun _ _ z => (z.after e2).after e1) fun _ _ z => z
end

end Mine

set_option autoImplicit false
set_option linter.unusedVariables false
namespace Mine
open PySem PySem.W

theorem St.toks {C : Cx} {σ : Store} {s : Shared} (x : St C σ s) (t : Nat) : St C σ { s with toks := t } := ⟨x.base, x.rep, x.above, x.gens, x.os⟩

section
variable {C : Cx} {A : Around} {env : Env} {ρ : Rho} {σ : Store} {X : XP}

theorem EP.pure {s : Shared} {Q : V → Store → Prop} {v : Value} {x : V} (S : St C σ s) (q : Q x σ) (r : VR s.heap v x) : EP C σ s.heap Q v s :=
  ⟨x, σ, q, r, S, .refl ..⟩
theorem EP.pureT {s : Shared} {Q : V → Store → Prop} {v : Value} {x : V} {t : Nat} (S : St C σ s) (q : Q x σ) (r : VR s.heap v x) : EP C σ s.heap Q v { s with toks := t } :=
  ⟨x, σ, q, r, S.toks t, .refl ..⟩

/- constants -/
theorem Ev.cint {i : Int} {k : Nat} {pos : Pos} {Q : V → Store → Prop} (h : Q (.int i) σ) : Ev C A env (.Constant (.int i) k pos) ρ σ Q X :=
  fun _ S _ => wpAny_Constant_int (EP.pureT S h (.int _ _))
theorem Ev.cstr {i : Str} {k : Nat} {pos : Pos} {Q : V → Store → Prop} (h : Q (.str i) σ) : Ev C A env (.Constant (.str i) k pos) ρ σ Q X :=
  fun _ S _ => wpAny_Constant_str (EP.pureT S h (.str _ _))
theorem Ev.cbool {i : Bool} {k : Nat} {pos : Pos} {Q : V → Store → Prop} (h : Q (.bool i) σ) : Ev C A env (.Constant (.bool i) k pos) ρ σ Q X :=
  fun _ S _ => wpAny_Constant_bool (EP.pure S h (.bool _))
theorem Ev.cnone {k : Nat} {pos : Pos} {Q : V → Store → Prop} (h : Q .none σ) : Ev C A env (.Constant .none k pos) ρ σ Q X :=
  fun _ S _ => wpAny_Constant_none (EP.pure S h .none)

/- names -/
theorem Ev.loc {x : Str} {pos : Pos} {v : V} {Q : V → Store → Prop} (hk : env.kindOf x = some .local) (hv : ρ.get x = some v) (h : Q v σ)
    (hd : (x == ("__debug__" : Str)) = false) : Ev C A env (.Name x pos) ρ σ Q X := by
  intro s S F
  obtain ⟨m, hm, f⟩ := F.loc
  obtain ⟨u, hu, r⟩ := f x v hk hv
  exact wpAny_Name (wpAny_loadName_local F.fn hk hm hu (EP.pure S h r)) hd
theorem Ev.cel {x : Str} {pos : Pos} {v : V} {c : Addr} {Q : V → Store → Prop} (hk : env.kindOf x = some .cell) (hc : env.cells.lookup x = some c) (hv : ρ.get x = some v) (h : Q v σ)
    (hd : (x == ("__debug__" : Str)) = false) : Ev C A env (.Name x pos) ρ σ Q X := by
  intro s S F
  obtain ⟨ov, a, b⟩ := F.cell x c hc
  obtain ⟨u, rfl, r⟩ := b v hv
  exact wpAny_Name (wpAny_loadName_cell F.fn hk hc a (EP.pure S h r)) hd
theorem Ev.free {x : Str} {pos : Pos} {v : V} {c : Addr} {Q : V → Store → Prop} (hk : env.kindOf x = some .free) (hc : env.cells.lookup x = some c) (hv : ρ.get x = some v) (h : Q v σ)
    (hd : (x == ("__debug__" : Str)) = false) (hn : (x == ("__classdict__" : Str)) = false) : Ev C A env (.Name x pos) ρ σ Q X := by
  intro s S F
  obtain ⟨ov, a, b⟩ := F.cell x c hc
  obtain ⟨u, rfl, r⟩ := b v hv
  exact wpAny_Name (wpAny_loadName_free F.fn hk hc a (EP.pure S h r) hn) hd

/- compare -/
theorem Ev.cmp {l r : Expr} {op : CmpOp} {pos : Pos} {Q : V → Store → Prop}
    (h : Ev C A env l ρ σ (fun x σ1 => Ev C A env r ρ σ1 (fun y σ2 => CmpWP C A op x y σ2 Q X) X) X) (hm : behindInMarks op r = false := by kernel_rfl) : Ev C A env (.Compare l [op] [r] pos) ρ σ Q X := by
  intro s S F
  refine wpAny_Compare1 (wpAny_mono (h s S F) ?_ fun _ _ z => z) hm
  rintro a s1 ⟨x, σ1, h1, r1, S1, e1⟩
  refine wpAny_mono (h1 s1 S1 (F.evo e1)) ?_ fun _ _ z => z
  rintro b s2 ⟨y, σ2, h2, r2, S2, e2⟩
  exact wpAny_mono (h2 s2 a b S2 (r1.mono e2.tup) r2) (fun _ _ z => (z.after e2).after e1) fun _ _ z => z

theorem Ev.un {e : Expr} {op : UnaryOp} {pos : Pos} {Q : V → Store → Prop} (h : Ev C A env e ρ σ (fun x σ1 => UnWP C A op x σ1 Q X) X) : Ev C A env (.UnaryOp op e pos) ρ σ Q X := by
  intro s S F
  refine wpAny_UnaryOp (wpAny_mono (h s S F) ?_ fun _ _ z => z)
  rintro a s1 ⟨x, σ1, h1, r1, S1, e1⟩
  exact wpAny_mono (h1 s1 a S1 r1) (fun _ _ z => z.after e1) fun _ _ z => z

theorem TP.after {σ1 : Store} {h h1 : Heap} {Q : Bool → Store → Prop} {v : Bool} {s' : Shared} (x : TP C σ1 h1 Q v s') (k : Evo σ h σ1 h1) : TP C σ h Q v s' :=
  let ⟨a, b, c, d⟩ := x; ⟨a, b, c, k.trans d⟩
theorem TP.pure {s : Shared} {Q : Bool → Store → Prop} {v : Bool} (S : St C σ s) (q : Q v σ) : TP C σ s.heap Q v s := ⟨σ, q, S, .refl ..⟩

theorem Tst.cmp {l r : Expr} {op : CmpOp} {pos : Pos} {Q : Bool → Store → Prop}
    (h : Ev C A env l ρ σ (fun x σ1 => Ev C A env r ρ σ1 (fun y σ2 => CmpWP C A op x y σ2 (fun c σ3 => TruWP C A c σ3 Q X) X) X) X) (hm : behindInMarks op r = false := by kernel_rfl) :
    Tst C A env (.Compare l [op] [r] pos) ρ σ Q X := by
  intro s S F
  refine wpAny_isTrue_Compare1 (wpAny_mono (h s S F) ?_ fun _ _ z => z) hm
  rintro a s1 ⟨x, σ1, h1, r1, S1, e1⟩
  refine wpAny_mono (h1 s1 S1 (F.evo e1)) ?_ fun _ _ z => z
  rintro b s2 ⟨y, σ2, h2, r2, S2, e2⟩
  refine wpAny_mono (h2 s2 a b S2 (r1.mono e2.tup) r2) ?_ fun _ _ z => z
  rintro c s3 ⟨z, σ3, h3, r3, S3, e3⟩
  exact wpAny_mono (h3 s3 c S3 r3) (fun _ _ z => TP.after z ((e1.trans e2).trans e3)) fun _ _ z => z

theorem Tst.not {e : Expr} {pos : Pos} {Q : Bool → Store → Prop} (h : Tst C A env e ρ σ (fun b σ' => Q (!b) σ') X) : Tst C A env (.UnaryOp .Not e pos) ρ σ Q X :=
  fun s S F => wpAny_isTrue_Not (wpAny_mono (h s S F) (fun _ _ ⟨a, b, c, d⟩ => ⟨a, b, c, d⟩) fun _ _ z => z)

/-- a test by its value -/
theorem Tst.val {e : Expr} {Q : Bool → Store → Prop} (h : Ev C A env e ρ σ (fun x σ1 => TruWP C A x σ1 Q X) X)
    (he : isTrue e env (eval e env) = (do let v ← eval e env; standAt e.pos; holding [v] (truthy v)) := by kernel_rfl) : Tst C A env e ρ σ Q X := by
  intro s S F
  refine wpAny_isTrue_value (wpAny_mono (h s S F) ?_ fun _ _ z => z) he
  rintro c s3 ⟨z, σ3, h3, r3, S3, e3⟩
  exact wpAny_mono (h3 s3 c S3 r3) (fun _ _ z => TP.after z e3) fun _ _ z => z

def AllT (C : Cx) (A : Around) (env : Env) (op : BoolOp) (es : List Expr) (ρ : Rho) (σ : Store) (Q : Bool → Store → Prop) (X : XP) : Prop :=
  ∀ s, St C σ s → Fm C σ s.heap env ρ → wpAny C.M A (allTrue op es env) (TP C σ s.heap Q) X s
theorem Tst.boolop {op : BoolOp} {es : List Expr} {pos : Pos} {Q : Bool → Store → Prop} (h : AllT C A env op es ρ σ Q X) : Tst C A env (.BoolOp op es pos) ρ σ Q X :=
  fun s S F => wpAny_isTrue_BoolOp (h s S F)
theorem AllT.and_nil {Q : Bool → Store → Prop} (h : Q true σ) : AllT C A env .And [] ρ σ Q X := fun s S _ => wpAny_allTrue_And_nil (TP.pure S h)
theorem AllT.or_nil {Q : Bool → Store → Prop} (h : Q false σ) : AllT C A env .Or [] ρ σ Q X := fun s S _ => wpAny_allTrue_Or_nil (TP.pure S h)
theorem AllT.and_cons {e : Expr} {es : List Expr} {Q : Bool → Store → Prop} (h : Tst C A env e ρ σ (fun b σ1 => if b then AllT C A env .And es ρ σ1 Q X else Q false σ1) X) : AllT C A env .And (e :: es) ρ σ Q X := by
  intro s S F
  refine wpAny_allTrue_And_cons (wpAny_mono (h s S F) ?_ fun _ _ z => z)
  rintro b s1 ⟨σ1, h1, S1, e1⟩
  cases b with
  | true => exact wpAny_mono (h1 s1 S1 (F.evo e1)) (fun _ _ z => TP.after z e1) fun _ _ z => z
  | false => exact ⟨σ1, h1, S1, e1⟩
theorem AllT.or_cons {e : Expr} {es : List Expr} {Q : Bool → Store → Prop} (h : Tst C A env e ρ σ (fun b σ1 => if b then Q true σ1 else AllT C A env .Or es ρ σ1 Q X) X) : AllT C A env .Or (e :: es) ρ σ Q X := by
  intro s S F
  refine wpAny_allTrue_Or_cons (wpAny_mono (h s S F) ?_ fun _ _ z => z)
  rintro b s1 ⟨σ1, h1, S1, e1⟩
  cases b with
  | false => exact wpAny_mono (h1 s1 S1 (F.evo e1)) (fun _ _ z => TP.after z e1) fun _ _ z => z
  | true => exact ⟨σ1, h1, S1, e1⟩

/- and, or as values -/
def BoolE (C : Cx) (A : Around) (env : Env) (pos : Pos) (op : BoolOp) (es : List Expr) (ρ : Rho) (σ : Store) (Q : V → Store → Prop) (X : XP) : Prop :=
  ∀ s, St C σ s → Fm C σ s.heap env ρ → wpAny C.M A (boolOp pos op (evalEach es env)) (EP C σ s.heap Q) X s
theorem Ev.boolop {op : BoolOp} {es : List Expr} {pos : Pos} {Q : V → Store → Prop} (h : BoolE C A env pos op es ρ σ Q X) : Ev C A env (.BoolOp op es pos) ρ σ Q X :=
  fun s S F => h s S F
theorem BoolE.one {op : BoolOp} {e : Expr} {pos : Pos} {Q : V → Store → Prop} (h : Ev C A env e ρ σ Q X) : BoolE C A env pos op [e] ρ σ Q X :=
  fun s S F => h s S F
theorem BoolE.and {e e' : Expr} {es : List Expr} {pos : Pos} {Q : V → Store → Prop}
    (h : Ev C A env e ρ σ (fun x σ1 => TruWP C A x σ1 (fun b σ2 => if b then BoolE C A env pos .And (e' :: es) ρ σ2 Q X else Q x σ2) X) X) : BoolE C A env pos .And (e :: e' :: es) ρ σ Q X := by
  intro s S F
  show wpAny C.M A (do
    let v ← eval e env
    standAt pos
    let t ← holding [v] (truthy v)
    match BoolOp.And, t with
    | .And, false | .Or, true => pure v
    | _, _ => boolOp pos .And (evalEach (e' :: es) env)) _ _ s
  refine wpAny_bind (wpAny_mono (h s S F) ?_ fun _ _ z => z)
  rintro v s1 ⟨x, σ1, h1, r1, S1, e1⟩
  refine wpAny_bind (wpAny_standAt (wpAny_bind (wpAny_holding (wpAny_mono (h1 s1 v S1 r1) ?_ fun _ _ z => z))))
  rintro t s2 ⟨σ2, h2, S2, e2⟩
  cases t with
  | true => exact wpAny_mono (h2 s2 S2 ((F.evo e1).evo e2)) (fun _ _ z => (z.after e2).after e1) fun _ _ z => z
  | false => exact wpAny_pure ⟨x, σ2, h2, r1.mono e2.tup, S2, e1.trans e2⟩
/- chains of two -/
theorem Ev.chain {l r1 r2 : Expr} {op1 op2 : CmpOp} {pos : Pos} {Q : V → Store → Prop}
    (h : Ev C A env l ρ σ (fun x σ1 => Ev C A env r1 ρ σ1 (fun y σ2 => CmpWP C A op1 x y σ2 (fun c σ3 => TruWP C A c σ3 (fun b σ4 =>
      if b then Ev C A env r2 ρ σ4 (fun z σ5 => CmpWP C A op2 y z σ5 Q X) X else Q c σ4) X) X) X) X)
    (hm : lastMarks [op1, op2] [r1, r2] = false := by kernel_rfl) : Ev C A env (.Compare l [op1, op2] [r1, r2] pos) ρ σ Q X := by
  intro s S F
  refine PyProof.Rows.Compare_chain (wpAny_mono (h s S F) ?_ fun _ _ z => z) hm
  rintro a s1 ⟨x, σ1, h1, v1, S1, e1⟩
  refine PyProof.Rows.chain_link (wpAny_mono (h1 s1 S1 (F.evo e1)) ?_ fun _ _ z => z)
  rintro b s2 ⟨y, σ2, h2, v2, S2, e2⟩
  refine wpAny_mono (h2 s2 a b S2 (v1.mono e2.tup) v2) ?_ fun _ _ z => z
  rintro c s3 ⟨z, σ3, h3, v3, S3, e3⟩
  refine wpAny_mono (h3 s3 c S3 v3) ?_ fun _ _ z => z
  rintro t s4 ⟨σ4, h4, S4, e4⟩
  have e14 := ((e1.trans e2).trans e3).trans e4
  cases t with
  | false => exact ⟨z, σ4, h4, v3.mono e4.tup, S4, e14⟩
  | true =>
    refine PyProof.Rows.chain_last (wpAny_mono (h4 s4 S4 (F.evo e14)) ?_ fun _ _ z => z)
    rintro d s5 ⟨z', σ5, h5, v5, S5, e5⟩
    exact wpAny_mono (h5 s5 b d S5 (((v2.mono e3.tup).mono e4.tup).mono e5.tup) v5) (fun _ _ z => z.after (e14.trans e5)) fun _ _ z => z
theorem Tst.chain {l r1 r2 : Expr} {op1 op2 : CmpOp} {pos : Pos} {Q : Bool → Store → Prop}
    (h : Ev C A env l ρ σ (fun x σ1 => Ev C A env r1 ρ σ1 (fun y σ2 => CmpWP C A op1 x y σ2 (fun c σ3 => TruWP C A c σ3 (fun b σ4 =>
      if b then Ev C A env r2 ρ σ4 (fun z σ5 => CmpWP C A op2 y z σ5 (fun c σ6 => TruWP C A c σ6 Q X) X) X else Q false σ4) X) X) X) X)
    (hm : lastMarks [op1, op2] [r1, r2] = false := by kernel_rfl) : Tst C A env (.Compare l [op1, op2] [r1, r2] pos) ρ σ Q X := by
  intro s S F
  refine PyProof.Rows.isTrue_chain (wpAny_mono (h s S F) ?_ fun _ _ z => z) hm
  rintro a s1 ⟨x, σ1, h1, v1, S1, e1⟩
  refine PyProof.Rows.test_link (wpAny_mono (h1 s1 S1 (F.evo e1)) ?_ fun _ _ z => z)
  rintro b s2 ⟨y, σ2, h2, v2, S2, e2⟩
  refine wpAny_mono (h2 s2 a b S2 (v1.mono e2.tup) v2) ?_ fun _ _ z => z
  rintro c s3 ⟨z, σ3, h3, v3, S3, e3⟩
  refine wpAny_mono (h3 s3 c S3 v3) ?_ fun _ _ z => z
  rintro t s4 ⟨σ4, h4, S4, e4⟩
  have e14 := ((e1.trans e2).trans e3).trans e4
  cases t with
  | false => exact ⟨σ4, h4, S4, e14⟩
  | true =>
    refine PyProof.Rows.test_last (wpAny_mono (h4 s4 S4 (F.evo e14)) ?_ fun _ _ z => z)
    rintro d s5 ⟨z', σ5, h5, v5, S5, e5⟩
    refine wpAny_mono (h5 s5 b d S5 (((v2.mono e3.tup).mono e4.tup).mono e5.tup) v5) ?_ fun _ _ z => z
    rintro f s6 ⟨z'', σ6, h6, v6, S6, e6⟩
    exact wpAny_mono (h6 s6 f S6 v6) (fun _ _ z => TP.after z ((e14.trans e5).trans e6)) fun _ _ z => z

/- ints -/
theorem BinWP.add_int {a b : Int} {Q : V → Store → Prop} (h : Q (.int (a + b)) σ) : BinWP C A .Add (.int a) (.int b) σ Q X := by
  intro s a b S ra rb
  obtain ⟨_, rfl⟩ := ra.intI
  obtain ⟨_, rfl⟩ := rb.intI
  exact PySem.P.add_int (EP.pureT S h (.int _ _))
theorem BinWP.sub_int {a b : Int} {Q : V → Store → Prop} (h : Q (.int (a - b)) σ) : BinWP C A .Sub (.int a) (.int b) σ Q X := by
  intro s a b S ra rb
  obtain ⟨_, rfl⟩ := ra.intI
  obtain ⟨_, rfl⟩ := rb.intI
  exact PySem.P.sub_int (EP.pureT S h (.int _ _))
theorem BinWP.mul_int {a b : Int} {Q : V → Store → Prop} (h : Q (.int (a * b)) σ) (hm : IntMulOk a b) : BinWP C A .Mult (.int a) (.int b) σ Q X := by
  intro s a b S ra rb
  obtain ⟨_, rfl⟩ := ra.intI
  obtain ⟨_, rfl⟩ := rb.intI
  exact PySem.P.mul_int (EP.pureT S h (.int _ _)) hm
theorem BinWP.fdiv_int {a b : Int} {Q : V → Store → Prop} (hb : b ≠ 0) (hs : b.natAbs < 1073741824) (h : Q (.int (a.fdiv b)) σ) : BinWP C A .FloorDiv (.int a) (.int b) σ Q X := by
  intro s a b S ra rb
  obtain ⟨_, rfl⟩ := ra.intI
  obtain ⟨_, rfl⟩ := rb.intI
  exact PyProof.Rows.floordiv_int hb (EP.pureT S h (.int _ _)) (.inl (PyProof.noPylong_small hs))
theorem BinWP.fmod_int {a b : Int} {Q : V → Store → Prop} (hb : b ≠ 0) (h : Q (.int (a.fmod b)) σ) : BinWP C A .Mod (.int a) (.int b) σ Q X := by
  intro s a b S ra rb
  obtain ⟨_, rfl⟩ := ra.intI
  obtain ⟨_, rfl⟩ := rb.intI
  exact PyProof.Rows.mod_int' hb (EP.pureT S h (.int _ _))
theorem UnWP.neg_int {a : Int} {Q : V → Store → Prop} (h : Q (.int (-a)) σ) : UnWP C A .USub (.int a) σ Q X := by
  intro s a S r
  obtain ⟨_, rfl⟩ := r.intI
  exact PySem.P.neg_int (EP.pureT S h (.int _ _))
theorem CmpWP.lt_int {a b : Int} {Q : V → Store → Prop} (h : Q (.bool (decide (a < b))) σ) : CmpWP C A .Lt (.int a) (.int b) σ Q X := by
  intro s a b S ra rb
  obtain ⟨_, rfl⟩ := ra.intI
  obtain ⟨_, rfl⟩ := rb.intI
  exact PySem.P.lt_int (EP.pure S h (.bool _))
theorem CmpWP.le_int {a b : Int} {Q : V → Store → Prop} (h : Q (.bool (decide (a ≤ b))) σ) : CmpWP C A .LtE (.int a) (.int b) σ Q X := by
  intro s a b S ra rb
  obtain ⟨_, rfl⟩ := ra.intI
  obtain ⟨_, rfl⟩ := rb.intI
  exact PySem.P.le_int (EP.pure S h (.bool _))
theorem CmpWP.gt_int {a b : Int} {Q : V → Store → Prop} (h : Q (.bool (decide (b < a))) σ) : CmpWP C A .Gt (.int a) (.int b) σ Q X := by
  intro s a b S ra rb
  obtain ⟨_, rfl⟩ := ra.intI
  obtain ⟨_, rfl⟩ := rb.intI
  exact PySem.P.gt_int (EP.pure S h (.bool _))
theorem CmpWP.ge_int {a b : Int} {Q : V → Store → Prop} (h : Q (.bool (decide (b ≤ a))) σ) : CmpWP C A .GtE (.int a) (.int b) σ Q X := by
  intro s a b S ra rb
  obtain ⟨_, rfl⟩ := ra.intI
  obtain ⟨_, rfl⟩ := rb.intI
  exact PySem.P.ge_int (EP.pure S h (.bool _))
theorem CmpWP.eq_int {a b : Int} {Q : V → Store → Prop} (h : Q (.bool (a == b)) σ) : CmpWP C A .Eq (.int a) (.int b) σ Q X := by
  intro s a b S ra rb
  obtain ⟨_, rfl⟩ := ra.intI
  obtain ⟨_, rfl⟩ := rb.intI
  exact PySem.P.eq_int (EP.pure S h (.bool _))
theorem CmpWP.ne_int {a b : Int} {Q : V → Store → Prop} (h : Q (.bool (a != b)) σ) : CmpWP C A .NotEq (.int a) (.int b) σ Q X := by
  intro s a b S ra rb
  obtain ⟨_, rfl⟩ := ra.intI
  obtain ⟨_, rfl⟩ := rb.intI
  exact PySem.P.ne_int (EP.pure S h (.bool _))
/- strs -/
theorem BinWP.add_str {a b : Str} {Q : V → Store → Prop} (h : Q (.str (a ++ b)) σ) (hs : a.length + b.length ≤ sizeLine) : BinWP C A .Add (.str a) (.str b) σ Q X := by
  intro s a b S ra rb
  obtain ⟨_, rfl⟩ := ra.strI
  obtain ⟨_, rfl⟩ := rb.strI
  exact PyProof.Rows.add_str (fun _ _ => EP.pureT S h (.str _ _)) hs
theorem CmpWP.eq_str {a b : Str} {Q : V → Store → Prop} (h : Q (.bool (a == b)) σ) : CmpWP C A .Eq (.str a) (.str b) σ Q X := by
  intro s a b S ra rb
  obtain ⟨_, rfl⟩ := ra.strI
  obtain ⟨_, rfl⟩ := rb.strI
  exact PyProof.Rows.eq_str (EP.pure S h (.bool _))
theorem CmpWP.ne_str {a b : Str} {Q : V → Store → Prop} (h : Q (.bool (a != b)) σ) : CmpWP C A .NotEq (.str a) (.str b) σ Q X := by
  intro s a b S ra rb
  obtain ⟨_, rfl⟩ := ra.strI
  obtain ⟨_, rfl⟩ := rb.strI
  exact PyProof.Rows.ne_str (EP.pure S h (.bool _))
/- truth -/
theorem TruWP.bool {b : Bool} {Q : Bool → Store → Prop} (h : Q b σ) : TruWP C A (.bool b) σ Q X := by
  intro s a S r
  obtain rfl := r.boolI
  exact wpAny_truthy_bool (TP.pure S h)
end

end Mine

set_option autoImplicit false
set_option linter.unusedVariables false
namespace Mine
open PySem PySem.W

section
variable {C : Cx} {A : Around} {env : Env} {ρ : Rho} {σ : Store} {X : XP} {s : Shared}

theorem tupKeep_sameBut {h h' : Heap} {a : Addr} (hs : Heap.SameBut a h h') (hn : ∀ o, h.get? a = some o → ¬ Imm o) : TupKeep h h' := fun b o i e => by
  by_cases q : b = a
  · subst q; exact absurd i (hn _ e)
  · exact (hs.2 b q).trans e
theorem Rep.notTup {h : Heap} {a : Addr} {o : O} (r : Rep C h a o) : ∀ o, h.get? a = some o → ¬ Imm o := fun o e => by
  obtain ⟨x, hx, h1⟩ := r.isSome
  rw [hx] at e; cases e; exact h1

theorem St.ne_of {a b : Addr} {o : O} (S : St C σ s) (ha : σ a = some o) (hb : σ b = none) : b ≠ a := fun e => by rw [e, ha] at hb; cases hb

theorem St.set {o o' : O} {a : Addr} {h' : Heap} {t : Nat} (S : St C σ s) (ha : σ a = some o) (hb : Heap.SameBut a s.heap h') (r : Rep C h' a o') :
    St C (σ.upd a o') { s with heap := h', toks := t } ∧ Evo σ s.heap (σ.upd a o') h' := by
  have tk : TupKeep s.heap h' := tupKeep_sameBut hb (S.rep a o ha).notTup
  refine ⟨⟨fun b x e => ?_, fun b x e => ?_, fun b x e => ?_, S.gens, S.os⟩, fun b x e n => ?_, fun b x e => ?_, fun b x e => ?_, tk⟩
  · have : b ≠ a := fun q => by
      subst q
      rw [(S.above b o ha).1] at e; cases e
    exact (hb.2 b this).trans (S.base b x e)
  · by_cases q : b = a
    · subst q; rw [Store.upd_self] at e; cases e; exact r
    · rw [Store.upd_ne _ _ q] at e
      exact (S.rep b x e).at (fun y hy => (hb.2 b q).trans hy) tk
  · by_cases q : b = a
    · subst q; exact S.above b o ha
    · rw [Store.upd_ne _ _ q] at e; exact S.above b x e
  · exact .inl ((hb.2 b (S.ne_of ha n)).trans e)
  · left
    by_cases q : b = a
    · subst q; exact ⟨_, ha⟩
    · rw [Store.upd_ne _ _ q] at e; exact ⟨_, e⟩
  · by_cases q : b = a
    · subst q; exact ⟨_, Store.upd_self ..⟩
    · exact ⟨x, by rw [Store.upd_ne _ _ q]; exact e⟩

theorem St.fresh (S : St C σ s) : σ s.heap.objs.size = none := by
  cases q : σ s.heap.objs.size with
  | none => rfl
  | some o =>
    obtain ⟨x, hx, _⟩ := (S.rep _ _ q).isSome
    exact absurd (Heap.lt_size hx) (Nat.lt_irrefl _)

theorem get?_fresh (h : Heap) : h.get? h.objs.size = none := by
  cases q : h.get? h.objs.size with
  | none => rfl
  | some o => exact absurd (Heap.lt_size q) (Nat.lt_irrefl _)

theorem Evo.ext {h h' : Heap} (k : ∀ b o, h.get? b = some o → h'.get? b = some o) : Evo σ h σ h' :=
  ⟨fun b o e _ => .inl (k b o e), fun b o e => .inl ⟨o, e⟩, fun b o e => ⟨o, e⟩, fun a o i e => k _ _ e⟩
theorem St.ext {h' : Heap} {t : Nat} (S : St C σ s) (k : ∀ b o, s.heap.get? b = some o → h'.get? b = some o) : St C σ { s with heap := h', toks := t } :=
  ⟨fun b o e => k _ _ (S.base b o e), fun a o e => (S.rep a o e).at (fun x hx => k _ _ hx) fun _ _ _ e => k _ _ e, S.above, S.gens, S.os⟩

theorem push_size (h : Heap) (x : Obj) : (h.push x).objs.size = h.objs.size + 1 := by
  obtain ⟨o, l⟩ := h; simp [Heap.push]

theorem St.baseFresh {a : Addr} (S : St C σ s) (h : C.n₀ ≤ a) : C.h₀.get? a = none := by
  cases q : C.h₀.get? a with
  | none => rfl
  | some o => exact absurd (C.low _ _ q) (Nat.not_lt.mpr h)
theorem St.new {x : Obj} {o : O} {t : Nat} (S : St C σ s) (r : Rep C (s.heap.push x) s.heap.objs.size o) :
    St C (σ.upd s.heap.objs.size o) { s with heap := s.heap.push x, toks := t } ∧ Evo σ s.heap (σ.upd s.heap.objs.size o) (s.heap.push x) := by
  have k : ∀ b y, s.heap.get? b = some y → (s.heap.push x).get? b = some y := fun b y e => Heap.get?_push_of_some _ e
  have S' := S.ext (t := t) k
  refine ⟨⟨S'.base, fun b y e => ?_, fun b y e => ?_, S'.gens, S'.os⟩, fun b y e n => .inl (k b y e), fun b y e => ?_, fun b y e => ?_, fun a o i e => k _ _ e⟩
  · by_cases q : b = s.heap.objs.size
    · subst q; rw [Store.upd_self] at e; cases e; exact r
    · rw [Store.upd_ne _ _ q] at e; exact S'.rep b y e
  · by_cases q : b = s.heap.objs.size
    · subst q; exact ⟨S.baseFresh S.size, .inl S.size⟩
    · rw [Store.upd_ne _ _ q] at e; exact S.above b y e
  · by_cases q : b = s.heap.objs.size
    · subst q; exact .inr (get?_fresh _)
    · rw [Store.upd_ne _ _ q] at e; exact .inl ⟨_, e⟩
  · by_cases q : b = s.heap.objs.size
    · subst q; exact ⟨_, Store.upd_self ..⟩
    · exact ⟨y, by rw [Store.upd_ne _ _ q]; exact e⟩

theorem St.push {x : Obj} {t : Nat} (S : St C σ s) : St C σ { s with heap := s.heap.push x, toks := t } :=
  S.ext (fun b y e => Heap.get?_push_of_some _ e)
theorem Evo.push {h : Heap} {x : Obj} : Evo σ h σ (h.push x) := .ext fun b y e => Heap.get?_push_of_some _ e

/- argument lists, displays -/
inductive AP (C : Cx) (σ : Store) (h : Heap) (Q : List V → Store → Prop) (vs : List Value) (s' : Shared) : Prop
  | mk (xs : List V) (σ' : Store) (q : Q xs σ') (r : VRs s'.heap vs xs) (S : St C σ' s') (e : Evo σ h σ' s'.heap) : AP C σ h Q vs s'
def Ags (C : Cx) (A : Around) (env : Env) (pos : Pos) (es : List Expr) (ρ : Rho) (σ : Store) (Q : List V → Store → Prop) (X : XP) : Prop :=
  ∀ s, St C σ s → Fm C σ s.heap env ρ → wpAny C.M A (spliced (backTo pos (starEach es env))) (AP C σ s.heap Q) X s
theorem Ags.nil {pos : Pos} {Q : List V → Store → Prop} (h : Q [] σ) : Ags C A env pos [] ρ σ Q X :=
  fun s S F => wpAny_items_nil ⟨[], σ, h, .nil, S, .refl ..⟩
theorem Ags.cons {pos : Pos} {e : Expr} {es : List Expr} {Q : List V → Store → Prop}
    (h : Ev C A env e ρ σ (fun x σ1 => Ags C A env pos es ρ σ1 (fun xs σ2 => Q (x :: xs) σ2) X) X)
    (he : starEach (e :: es) env = (false, eval e env) :: starEach es env := by kernel_rfl) : Ags C A env pos (e :: es) ρ σ Q X := by
  intro s S F
  refine wpAny_items_cons (wpAny_mono (h s S F) ?_ fun _ _ z => z) he
  rintro v s1 ⟨x, σ1, h1, r1, S1, e1⟩
  refine wpAny_mono (h1 s1 S1 (F.evo e1)) ?_ fun _ _ z => z
  rintro vs s2 ⟨xs, σ2, h2, r2, S2, e2⟩
  exact ⟨x :: xs, σ2, h2, .cons (r1.mono e2.tup) r2, S2, e1.trans e2⟩

theorem VRs.push {h : Heap} {x : Obj} {vs : List Value} {xs : List V} (r : VRs h vs xs) : VRs (h.push x) vs xs := r.mono fun _ _ _ e => Heap.get?_push_of_some _ e

theorem Ev.tuple {es : List Expr} {k : Nat} {pos : Pos} {Q : V → Store → Prop} (h : Ags C A env pos es ρ σ (fun xs σ1 => xs.length ≤ sizeLine ∧ Q (.tup xs) σ1) X) :
    Ev C A env (.Tuple es k pos) ρ σ Q X := by
  intro s S F
  refine wpAny_Tuple (wpAny_mono (h s S F) ?_ fun _ _ z => z)
  rintro vs s1 ⟨xs, σ1, ⟨hz, q⟩, r1, S1, e1⟩
  refine ⟨by rw [r1.length]; exact hz, .tup xs, σ1, q, .tup (n := 0) (Heap.get?_push_size _ rfl) (by simpa using r1.push), S1.push, e1.trans .push⟩

theorem rep_list_push {h : Heap} {vs : List Value} {xs : List V} (r : VRs h vs xs) : Rep C (h.push { cls := .type "list", data := .seq vs.toArray }) h.objs.size (.list xs) :=
  ⟨vs.toArray, ⟨0, Heap.get?_push_size _ rfl⟩, by simpa using r.push⟩

theorem Ev.list {es : List Expr} {pos : Pos} {Q : V → Store → Prop} (h : Ags C A env pos es ρ σ (fun xs σ1 => xs.length ≤ sizeLine ∧ ∀ a, σ1 a = none → Q (.ref a) (σ1.upd a (.list xs))) X) :
    Ev C A env (.List es pos) ρ σ Q X := by
  intro s S F
  refine wpAny_List (wpAny_mono (h s S F) ?_ fun _ _ z => z)
  rintro vs s1 ⟨xs, σ1, ⟨hz, q⟩, r1, S1, e1⟩
  obtain ⟨S2, e2⟩ := S1.new (t := s1.toks) (rep_list_push r1)
  exact ⟨by rw [r1.length]; exact hz, .ref _, _, q _ S1.fresh, .ref _, S2, e1.trans e2⟩

/- statements -/
inductive FV where
  | next | brk | cont | ret (v : V)
inductive FR (h : Heap) : Flow → FV → Prop where
  | next : FR h .next .next
  | brk : FR h .brk .brk
  | cont : FR h .cont .cont
  | ret {v : Value} {x : V} : VR h v x → FR h (.ret v) (.ret x)

def Own (env : Env) (b : Addr) : Prop := b = env.locals ∨ ∃ x, env.cells.lookup x = some b
structure EvoF (env : Env) (σ : Store) (h : Heap) (σ' : Store) (h' : Heap) : Prop where
  keep : ∀ b o, h.get? b = some o → σ b = none → ¬ Own env b → Kept h' b o
  dom : ∀ b o, σ' b = some o → (∃ o', σ b = some o') ∨ h.get? b = none
  mono : ∀ b o, σ b = some o → ∃ o', σ' b = some o'
  tup : TupKeep h h'
  there : ∀ b o, h.get? b = some o → Own env b → ∃ o', h'.get? b = some o'
theorem Evo.evoF {σ' : Store} {h h' : Heap} (x : Evo σ h σ' h') (hown : ∀ b, Own env b → σ b = none) : EvoF env σ h σ' h' :=
  ⟨fun b o e n _ => x.keep b o e n, x.dom, x.mono, x.tup, fun b o e w => (x.keep b o e (hown b w)).got⟩
theorem EvoF.refl (h : Heap) : EvoF env σ h σ h := ⟨fun _ _ e _ _ => .inl e, fun _ _ e => .inl ⟨_, e⟩, fun _ _ e => ⟨_, e⟩, .refl _, fun _ o e _ => ⟨o, e⟩⟩
theorem EvoF.trans {σ1 σ2 σ3 : Store} {h1 h2 h3 : Heap} (x : EvoF env σ1 h1 σ2 h2) (y : EvoF env σ2 h2 σ3 h3) : EvoF env σ1 h1 σ3 h3 := by
  refine ⟨fun b o e n w => ?_, fun b o e => ?_, fun b o e => ?_, x.tup.trans y.tup, fun b o e w => ?_⟩
  · refine (x.keep b o e n w).trans fun o' e' => y.keep b o' e' ?_ w
    cases q : σ2 b with
    | none => rfl
    | some o2 =>
      rcases x.dom b o2 q with ⟨o', e'⟩ | e'
      · rw [n] at e'; cases e'
      · rw [e] at e'; cases e'
  · rcases y.dom b o e with ⟨o', e'⟩ | e'
    · exact x.dom b o' e'
    · cases q : h1.get? b with
      | none => exact .inr rfl
      | some o1 =>
        left
        cases q' : σ1 b with
        | some o' => exact ⟨o', rfl⟩
        | none =>
          exfalso
          by_cases w : Own env b
          · obtain ⟨o', z⟩ := x.there b o1 q w
            rw [z] at e'; cases e'
          · obtain ⟨o', z⟩ := (x.keep b o1 q q' w).got
            rw [z] at e'; cases e'
  · obtain ⟨o', e'⟩ := x.mono b o e
    exact y.mono b o' e'
  · obtain ⟨o', z⟩ := x.there b o e w
    exact y.there b o' z w

theorem Fm.own {h : Heap} (F : Fm C σ h env ρ) : ∀ b, Own env b → σ b = none := by
  rintro b (rfl | ⟨x, e⟩)
  · exact F.locs
  · exact (F.ncell x b e).1

inductive SP (C : Cx) (env : Env) (σ : Store) (h : Heap) (Q : FV → Rho → Store → Prop) (f : Flow) (s' : Shared) : Prop
  | mk (g : FV) (ρ' : Rho) (σ' : Store) (q : Q g ρ' σ') (r : FR s'.heap f g) (S : St C σ' s') (F : Fm C σ' s'.heap env ρ') (e : EvoF env σ h σ' s'.heap) : SP C env σ h Q f s'
theorem SP.after {σ1 : Store} {h h1 : Heap} {Q : FV → Rho → Store → Prop} {f : Flow} {s' : Shared} (x : SP C env σ1 h1 Q f s') (k : EvoF env σ h σ1 h1) : SP C env σ h Q f s' :=
  let ⟨a, b, c, d, e, f, g, i⟩ := x; ⟨a, b, c, d, e, f, g, k.trans i⟩
theorem SP.mono {h : Heap} {Q Q' : FV → Rho → Store → Prop} {f : Flow} {s' : Shared} (x : SP C env σ h Q f s') (k : ∀ g ρ σ, Q g ρ σ → Q' g ρ σ) : SP C env σ h Q' f s' :=
  let ⟨a, b, c, d, e, f, g, i⟩ := x; ⟨a, b, c, k _ _ _ d, e, f, g, i⟩

def Ex (C : Cx) (A : Around) (env : Env) (st : Stmt) (ρ : Rho) (σ : Store) (Q : FV → Rho → Store → Prop) (X : XP) : Prop :=
  ∀ s, St C σ s → Fm C σ s.heap env ρ → wpAny C.M A (exec st env) (SP C env σ s.heap Q) X s
def Exs (C : Cx) (A : Around) (env : Env) (st : List Stmt) (ρ : Rho) (σ : Store) (Q : FV → Rho → Store → Prop) (X : XP) : Prop :=
  ∀ s, St C σ s → Fm C σ s.heap env ρ → wpAny C.M A (execs st env) (SP C env σ s.heap Q) X s

theorem Exs.mono {ss : List Stmt} {Q Q' : FV → Rho → Store → Prop} (h : Exs C A env ss ρ σ Q X) (k : ∀ g ρ σ, Q g ρ σ → Q' g ρ σ) : Exs C A env ss ρ σ Q' X :=
  fun s S F => wpAny_mono (h s S F) (fun _ _ z => z.mono k) fun _ _ z => z
theorem Ex.mono {ss : Stmt} {Q Q' : FV → Rho → Store → Prop} (h : Ex C A env ss ρ σ Q X) (k : ∀ g ρ σ, Q g ρ σ → Q' g ρ σ) : Ex C A env ss ρ σ Q' X :=
  fun s S F => wpAny_mono (h s S F) (fun _ _ z => z.mono k) fun _ _ z => z

/-- what goes on behind a statement -/
def Then (C : Cx) (A : Around) (env : Env) (ss : List Stmt) (Q : FV → Rho → Store → Prop) (X : XP) (g : FV) (ρ : Rho) (σ : Store) : Prop :=
  match g with
  | .next => Exs C A env ss ρ σ Q X
  | g => Q g ρ σ
theorem Exs.nil {Q : FV → Rho → Store → Prop} (h : Q .next ρ σ) : Exs C A env [] ρ σ Q X :=
  fun s S F => wpAny_execs_nil ⟨.next, ρ, σ, h, .next, S, F, .refl _⟩
theorem Exs.cons {st : Stmt} {ss : List Stmt} {Q : FV → Rho → Store → Prop} (h : Ex C A env st ρ σ (Then C A env ss Q X) X) : Exs C A env (st :: ss) ρ σ Q X := by
  intro s S F
  refine wpAny_execs_cons (wpAny_mono (h s S F) ?_ fun _ _ z => z)
  rintro f s1 ⟨g, ρ1, σ1, h1, r1, S1, F1, e1⟩
  cases r1 with
  | next => exact wpAny_mono (h1 s1 S1 F1) (fun _ _ z => z.after e1) fun _ _ z => z
  | brk => exact ⟨_, _, _, h1, .brk, S1, F1, e1⟩
  | cont => exact ⟨_, _, _, h1, .cont, S1, F1, e1⟩
  | ret r => exact ⟨_, _, _, h1, .ret r, S1, F1, e1⟩

theorem Ex.ret {e : Expr} {pos : Pos} {Q : FV → Rho → Store → Prop} (h : Ev C A env e ρ σ (fun x σ1 => Q (.ret x) ρ σ1) X) : Ex C A env (.Return (some e) pos) ρ σ Q X := by
  intro s S F
  refine wpAny_Return_some (wpAny_mono (h s S F) ?_ fun _ _ z => z)
  rintro v s1 ⟨x, σ1, h1, r1, S1, e1⟩
  exact ⟨_, _, _, h1, .ret r1, S1, F.evo e1, e1.evoF F.own⟩
theorem Ex.ite {t : Expr} {b1 b2 : List Stmt} {pos : Pos} {Q : FV → Rho → Store → Prop} (h : Tst C A env t ρ σ (fun b σ1 => if b then Exs C A env b1 ρ σ1 Q X else Exs C A env b2 ρ σ1 Q X) X) :
    Ex C A env (.If t b1 b2 pos) ρ σ Q X := by
  intro s S F
  refine wpAny_If (wpAny_mono (h s S F) ?_ fun _ _ z => z)
  rintro b s1 ⟨σ1, h1, S1, e1⟩
  cases b
  · exact wpAny_mono (h1 s1 S1 (F.evo e1)) (fun _ _ z => z.after (e1.evoF F.own)) fun _ _ z => z
  · exact wpAny_mono (h1 s1 S1 (F.evo e1)) (fun _ _ z => z.after (e1.evoF F.own)) fun _ _ z => z

/-- a list that stood at the call -/
def BaseL (C : Cx) (l : Addr) (xs : List V) : Prop := ∃ items, C.h₀.IsList l items ∧ VRs C.h₀ items.toList xs
/-- a list's items: of the store, or of the base -/
def LstAt (C : Cx) (σ : Store) (l : Addr) (xs : List V) : Prop := σ l = some (.list xs) ∨ BaseL C l xs


theorem LstAt.raw {l : Addr} {xs : List V} (h : LstAt C σ l xs) (S : St C σ s) : ∃ items, s.heap.IsList l items ∧ VRs s.heap items.toList xs := by
  rcases h with h | ⟨items, ⟨o, e, r⟩, h2⟩
  · obtain ⟨items, pl, r⟩ := S.rep _ _ h
    exact ⟨items, pl.isList, r⟩
  · exact ⟨items, ⟨o, S.base _ _ e, r⟩, h2.mono fun _ _ _ e => S.base _ _ e⟩

end

end Mine

set_option autoImplicit false
set_option linter.unusedVariables false
namespace Mine
open PySem PySem.W

section
variable {C : Cx} {A : Around} {env : Env} {ρ : Rho} {σ : Store} {X : XP} {s : Shared}

/-- a statement's value thrown away -/
theorem Ex.expr {e : Expr} {pos : Pos} {Q : FV → Rho → Store → Prop} (h : Ev C A env e ρ σ (fun x σ1 => Q .next ρ σ1) X)
    (hi : interactive env = false := by kernel_rfl) (hs : swapsWith e none pos.line env = pure false := by kernel_rfl) : Ex C A env (.Expr e pos) ρ σ Q X := by
  intro s S F
  refine wpAny_Expr_any (wpAny_mono (h s S F) ?_ fun _ _ z => z) hi hs
  rintro v s1 ⟨x, σ1, h1, r1, S1, e1⟩
  exact ⟨_, _, _, h1, .next, S1, F.evo e1, e1.evoF F.own⟩

/- assigning -/
def Asg (C : Cx) (A : Around) (env : Env) (t : Expr) (x : V) (ρ : Rho) (σ : Store) (Q : Rho → Store → Prop) (X : XP) : Prop :=
  ∀ s v, St C σ s → Fm C σ s.heap env ρ → VR s.heap v x → wpAny C.M A (assign t env v) (fun _ s' => ∃ ρ' σ', Q ρ' σ' ∧ St C σ' s' ∧ Fm C σ' s'.heap env ρ' ∧ EvoF env σ s.heap σ' s'.heap) X s

theorem Fm.storeLocal {h h' : Heap} {x : Str} {v : Value} {y : V} {m : Str → Option Value} {t : Nat} (S : St C σ s) (F : Fm C σ s.heap env ρ) (hk : env.kindOf x = some .local)
    (hm : s.heap.Ns env.locals m) (f : ∀ x v, env.kindOf x = some .local → ρ.get x = some v → ∃ u, m x = some u ∧ VR s.heap u v)
    (hn : h'.Ns env.locals (fun z => if z = x then some v else m z)) (hs : Heap.SameBut env.locals s.heap h') (r : VR s.heap v y)
    (hc : env.cells.lookup x = none) :
    St C σ { s with heap := h', toks := t } ∧ Fm C σ h' env (ρ.put x y) ∧ EvoF env σ s.heap σ h' := by
  have nt : ∀ o, s.heap.get? env.locals = some o → ¬ Imm o := fun o e => by obtain ⟨o', es, ep, ho, hd, _⟩ := hm; rw [ho] at e; cases e; exact Imm.notDict hd
  have tk := tupKeep_sameBut hs nt
  have ne : ∀ b o, σ b = some o → b ≠ env.locals := fun b o e q => by rw [q, F.locs] at e; cases e
  refine ⟨⟨fun b o e => ?_, fun b o e => ?_, S.above, S.gens, S.os⟩, ⟨F.fn, ⟨_, hn, fun z u hz hu => ?_⟩, F.locs, F.abv, fun z c hz => ?_, F.ncell, F.apart⟩, fun b o e n w => ?_, fun b o e => .inl ⟨o, e⟩, fun b o e => ⟨o, e⟩, tk, fun b o e w => ?_⟩
  · refine (hs.2 b fun q => ?_).trans (S.base b o e)
    subst q; exact absurd (C.low _ _ e) (Nat.not_lt.mpr F.abv)
  · exact (S.rep b o e).at (fun y hy => (hs.2 b (ne b o e)).trans hy) tk
  · rw [Rho.get_put] at hu
    by_cases q : z = x
    · subst q; rw [if_pos rfl] at hu; cases hu; exact ⟨v, by simp, r.mono tk⟩
    · rw [if_neg q] at hu
      obtain ⟨a, b, d⟩ := f z u hz hu
      exact ⟨a, by simp [q, b], d.mono tk⟩
  · obtain ⟨ov, a, b⟩ := F.cell z c hz
    obtain ⟨n1, n2, n3⟩ := F.ncell z c hz
    refine ⟨ov, a.sameBut hs n2, fun u hu => ?_⟩
    rw [Rho.get_put, if_neg (fun q => by subst q; rw [hc] at hz; cases hz)] at hu
    obtain ⟨p, q1, q2⟩ := b u hu
    exact ⟨p, q1, q2.mono tk⟩
  · exact .inl ((hs.2 b fun q => w (.inl q)).trans e)
  · by_cases q : b = env.locals
    · subst q
      obtain ⟨o', _, _, ho, _⟩ := hn
      exact ⟨o', ho⟩
    · exact ⟨o, (hs.2 b q).trans e⟩

theorem Asg.loc {x : Str} {pos : Pos} {y : V} {ρ' : Rho} {Q : Rho → Store → Prop} (hk : env.kindOf x = some .local) (hc : env.cells.lookup x = none) (hp : ρ.put x y = ρ') (h : Q ρ' σ) :
    Asg C A env (.Name x pos) y ρ σ Q X := by
  intro s v S F r
  obtain ⟨m, hm, f⟩ := F.loc
  refine wpAny_assign_Name (wpAny_storeName_local hk hm (fun h' hn hs => ?_) (by rw [F.fn]; rfl))
  obtain ⟨a, b, c⟩ := Fm.storeLocal (h := s.heap) (t := s.toks + 1) S F hk hm f hn hs r hc
  exact ⟨_, _, h, a, hp ▸ b, c⟩

theorem Asg.cel {x : Str} {pos : Pos} {y : V} {c : Addr} {ρ' : Rho} {Q : Rho → Store → Prop} (hk : env.kindOf x = some .cell) (hc : env.cells.lookup x = some c) (hp : ρ.put x y = ρ') (h : Q ρ' σ) :
    Asg C A env (.Name x pos) y ρ σ Q X := by
  intro s v S F r
  obtain ⟨ov, a, b⟩ := F.cell x c hc
  obtain ⟨n1, n2, n3⟩ := F.ncell x c hc
  refine wpAny_assign_Name (wpAny_storeName_cell F.fn hk hc a (fun h' hcl hs => ?_))
  have nt : ∀ o, s.heap.get? c = some o → ¬ Imm o := fun o e => by obtain ⟨o', ho, hd⟩ := a; rw [ho] at e; cases e; exact Imm.notCell hd
  have tk := tupKeep_sameBut hs nt
  have ne : ∀ b o, σ b = some o → b ≠ c := fun b o e q => by rw [q, n1] at e; cases e
  obtain ⟨m, hm, f⟩ := F.loc
  refine ⟨ρ', σ, h, ⟨fun b o e => ?_, fun b o e => ?_, S.above, S.gens, S.os⟩, hp ▸ ⟨F.fn, ⟨m, hm.sameBut hs n2.symm, fun z u hz hu => ?_⟩, F.locs, F.abv, fun z d hz => ?_, F.ncell, F.apart⟩, fun b o e n w => ?_, fun b o e => .inl ⟨o, e⟩, fun b o e => ⟨o, e⟩, tk, fun b o e w => ?_⟩
  · refine (hs.2 b fun q => ?_).trans (S.base b o e)
    subst q; exact absurd (C.low _ _ e) (Nat.not_lt.mpr n3)
  · exact (S.rep b o e).at (fun y hy => (hs.2 b (ne b o e)).trans hy) tk
  · rw [Rho.get_put, if_neg (fun q => by subst q; rw [hk] at hz; cases hz)] at hu
    obtain ⟨a, b, d⟩ := f z u hz hu
    exact ⟨a, b, d.mono tk⟩
  · by_cases q : z = x
    · subst q
      rw [hc] at hz; cases hz
      exact ⟨some v, hcl, fun u hu => by rw [Rho.get_put, if_pos rfl] at hu; cases hu; exact ⟨v, rfl, r.mono tk⟩⟩
    · have dc : d ≠ c := fun e => q (F.apart z x d hz (e ▸ hc))
      obtain ⟨ov', a', b'⟩ := F.cell z d hz
      refine ⟨ov', a'.sameBut hs dc, fun u hu => ?_⟩
      rw [Rho.get_put, if_neg q] at hu
      obtain ⟨p, q1, q2⟩ := b' u hu
      exact ⟨p, q1, q2.mono tk⟩
  · exact .inl ((hs.2 b fun q => w (.inr ⟨x, q ▸ hc⟩)).trans e)
  · by_cases q : b = c
    · subst q
      obtain ⟨o', ho, _⟩ := hcl
      exact ⟨o', ho⟩
    · exact ⟨o, (hs.2 b q).trans e⟩

/-- one target -/
theorem Ex.assign {t value : Expr} {pos : Pos} {Q : FV → Rho → Store → Prop} (h : Ev C A env value ρ σ (fun x σ1 => Asg C A env t x ρ σ1 (fun ρ' σ' => Q .next ρ' σ') X) X)
    (hs : swapsWithSole [t] value pos.line env = pure false := by kernel_rfl) (hw : swappedStores [t] value env = pure none := by kernel_rfl)
    (ht : (assignEach [t] env).map (·.2) = [assign t env] := by kernel_rfl) : Ex C A env (.Assign [t] value pos) ρ σ Q X := by
  intro s S F
  refine wpAny_Assign_stores (wpAny_mono (h s S F) ?_ fun _ _ z => z) hs hw
  rintro v s1 ⟨x, σ1, h1, r1, S1, e1⟩
  rw [ht]
  refine wpAny_mono (h1 s1 v S1 (F.evo e1) r1) ?_ fun _ _ z => z
  rintro _ s2 ⟨ρ', σ', q, S2, F2, e2⟩
  exact ⟨_, _, _, q, .next, S2, F2, (e1.evoF F.own).trans e2⟩

/- tuple targets -/
def AsgO (C : Cx) (A : Around) (env : Env) (ts : List Expr) (xs : List V) (ρ : Rho) (σ : Store) (Q : Rho → Store → Prop) (X : XP) : Prop :=
  ∀ s vs, St C σ s → Fm C σ s.heap env ρ → VRs s.heap vs xs → wpAny C.M A (assignInOrder ((assignEach ts env).map (·.2)) vs) (fun _ s' => ∃ ρ' σ', Q ρ' σ' ∧ St C σ' s' ∧ Fm C σ' s'.heap env ρ' ∧ EvoF env σ s.heap σ' s'.heap) X s
theorem AsgO.nil {Q : Rho → Store → Prop} (h : Q ρ σ) : AsgO C A env [] [] ρ σ Q X :=
  fun s vs S F r => by cases r; exact wpAny_pure ⟨ρ, σ, h, S, F, .refl _⟩
theorem AsgO.cons {t : Expr} {ts : List Expr} {x : V} {xs : List V} {Q : Rho → Store → Prop} (h : Asg C A env t x ρ σ (fun ρ1 σ1 => AsgO C A env ts xs ρ1 σ1 Q X) X)
    (ht : (assignEach (t :: ts) env).map (·.2) = assign t env :: (assignEach ts env).map (·.2) := by kernel_rfl) : AsgO C A env (t :: ts) (x :: xs) ρ σ Q X := by
  intro s vs S F r
  cases r with
  | cons r1 r2 =>
    rw [ht]
    refine wpAny_assignInOrder_more (wpAny_mono (h s _ S F r1) ?_ fun _ _ z => z)
    rintro _ s1 ⟨ρ1, σ1, q, S1, F1, e1⟩
    refine wpAny_mono (q s1 _ S1 F1 (r2.mono e1.tup)) ?_ fun _ _ z => z
    rintro _ s2 ⟨ρ2, σ2, q2, S2, F2, e2⟩
    exact ⟨ρ2, σ2, q2, S2, F2, e1.trans e2⟩
theorem Asg.tup {ts : List Expr} {xs : List V} {k : Nat} {pos : Pos} {Q : Rho → Store → Prop} (hh : A.handled = none) (hl : ts.length = xs.length) (h : AsgO C A env ts xs ρ σ Q X)
    (hn : (assignEach ts env).length = ts.length := by kernel_rfl) (hstar : (assignEach ts env).findIdx? (·.1) = none := by kernel_rfl) : Asg C A env (.Tuple ts k pos) (.tup xs) ρ σ Q X := by
  intro s v S F r
  cases r with
  | @tup a items n _ ha hr =>
    refine wpAny_assign_Tuple hh (t := a) (items := items) ⟨_, ha, rfl, n, rfl⟩ ?_ hstar (fun h' he => ?_)
    · rw [hn, hl, ← hr.length]; simp
    · have k : ∀ b o, s.heap.get? b = some o → h'.get? b = some o := fun b o e => he b o (Nat.ne_of_lt (Heap.lt_size e)) e
      have e0 : Evo σ s.heap σ h' := .ext k
      refine wpAny_mono (h { s with heap := h' } items.toList (S.ext (t := s.toks) k) (F.evo e0) (hr.mono e0.tup)) ?_ fun _ _ z => z
      rintro _ s2 ⟨ρ2, σ2, q2, S2, F2, e2⟩
      exact ⟨ρ2, σ2, q2, S2, F2, (e0.evoF F.own).trans e2⟩
end

end Mine

set_option autoImplicit false
set_option linter.unusedVariables false
namespace Mine
open PySem PySem.W

def FV.val : FV → V
  | .ret v => v
  | _ => .none
def fval : Flow → Value
  | .ret v => v
  | _ => .none
theorem FR.val {h : Heap} {f : Flow} {g : FV} (r : FR h f g) : VR h (fval f) g.val := by
  cases r <;> first | exact .none | assumption

def CallWP (C : Cx) (A : Around) (f : Value) (args : List V) (σ : Store) (Q : V → Store → Prop) (X : XP) : Prop :=
  ∀ s vs, St C σ s → VRs s.heap vs args → wpAny C.M A (call f vs) (EP C σ s.heap Q) X s

section
variable {kindOf : Str → Option NameKind} {h : Heap}
theorem bindL_notin {x : Str} : ∀ (names : List Str) (vals : List Value) (m : Str → Option Value), x ∉ names → bindL kindOf (names.zip vals) m x = m x
  | [], _, _, _ => rfl
  | _ :: _, [], _, _ => rfl
  | n :: names, v :: vals, m, hx => by
    show bindL kindOf (names.zip vals) _ x = m x
    rw [bindL_notin names vals _ fun q => hx (.tail _ q)]
    split
    · exact if_neg fun (q : x = n) => hx (q ▸ .head _)
    · rfl
theorem bindC_notin {x : Str} : ∀ (names : List Str) (vals : List Value) (m : Str → Option Value), x ∉ names → bindC kindOf (names.zip vals) m x = m x
  | [], _, _, _ => rfl
  | _ :: _, [], _, _ => rfl
  | n :: names, v :: vals, m, hx => by
    show bindC kindOf (names.zip vals) _ x = m x
    rw [bindC_notin names vals _ fun q => hx (.tail _ q)]
    split
    · rfl
    · exact if_neg fun (q : x = n) => hx (q ▸ .head _)
theorem bindL_get {x : Str} {y : V} : ∀ (names : List Str) (vals : List Value) (args : List V) (m : Str → Option Value), VRs h vals args → names.Nodup → kindOf x = some .local →
    Rho.get (names.zip args) x = some y → ∃ u, bindL kindOf (names.zip vals) m x = some u ∧ VR h u y := by
  intro names
  induction names with
  | nil => intro _ _ _ _ _ _ e; cases e
  | cons n names ih =>
    intro vals args m rr nd hk e
    cases args with
    | nil => cases e
    | cons a args =>
    obtain ⟨v, vals, rfl, r, rs⟩ := rr.consI
    have nd' := List.nodup_cons.mp nd
    show ∃ u, bindL kindOf (names.zip vals) _ x = some u ∧ _
    have e' : (if x = n then some a else Rho.get (names.zip args) x) = some y := e
    by_cases q : x = n
    · subst q
      rw [if_pos rfl] at e'; cases e'
      rw [bindL_notin names vals _ nd'.1, if_pos hk]
      exact ⟨v, if_pos rfl, r⟩
    · rw [if_neg q] at e'
      exact ih vals args _ rs nd'.2 hk e'
theorem bindC_get {x : Str} {y : V} : ∀ (names : List Str) (vals : List Value) (args : List V) (m : Str → Option Value), VRs h vals args → names.Nodup → kindOf x ≠ some .local →
    Rho.get (names.zip args) x = some y → ∃ u, bindC kindOf (names.zip vals) m x = some u ∧ VR h u y := by
  intro names
  induction names with
  | nil => intro _ _ _ _ _ _ e; cases e
  | cons n names ih =>
    intro vals args m rr nd hk e
    cases args with
    | nil => cases e
    | cons a args =>
    obtain ⟨v, vals, rfl, r, rs⟩ := rr.consI
    have nd' := List.nodup_cons.mp nd
    show ∃ u, bindC kindOf (names.zip vals) _ x = some u ∧ _
    have e' : (if x = n then some a else Rho.get (names.zip args) x) = some y := e
    by_cases q : x = n
    · subst q
      rw [if_pos rfl] at e'; cases e'
      rw [bindC_notin names vals _ nd'.1, if_neg hk]
      exact ⟨v, if_pos rfl, r⟩
    · rw [if_neg q] at e'
      exact ih vals args _ rs nd'.2 hk e'
end

theorem cellsFrom_mem : ∀ (names : List (Str × NameKind)) (n : Nat) (acc : List (Str × Addr)) (x : Str) (c : Addr), (x, c) ∈ cellsFrom n names acc → (x, c) ∈ acc ∨ (x, NameKind.cell) ∈ names
  | [], _, _, _, _, h => .inl h
  | (nm, k) :: r, n, acc, x, c, h => by
    unfold cellsFrom at h
    split at h
    · rename_i hk
      rcases cellsFrom_mem r _ _ x c h with q | q
      · rcases List.mem_cons.mp q with q | q
        · cases q
          right
          rw [← beq_iff_eq.mp hk]
          exact .head _
        · exact .inl q
      · exact .inr (.tail _ q)
    · rcases cellsFrom_mem r _ _ x c h with q | q
      · exact .inl q
      · exact .inr (.tail _ q)

/-- cells of a scope are cells by its table -/
def scopeOk (scope : Scope) : Bool := scope.names.all fun p => p.2 != .cell || scope.names.lookup p.1 == some .cell

section
variable {C : Cx} {A : Around} {env : Env} {ρ : Rho} {σ : Store} {X : XP} {s : Shared}

theorem St.callee {fd : FuncData} {f : Addr} {names : List Str} {vals : List Value} {args : List V} {s₁ : Shared} (S : St C σ s) (r : VRs s.heap vals args) (nd : names.Nodup) (hk : fd.scope.kind = .function) (hsc : scopeOk fd.scope = true)
    (x : InCallC s (callEnvC fd s.heap.objs.size f).locals (bindL (callEnvC fd s.heap.objs.size f).kindOf (names.zip vals) fun _ => none) (callEnvC fd s.heap.objs.size f).cells
        (bindC (callEnvC fd s.heap.objs.size f).kindOf (names.zip vals) fun _ => none) s₁) :
    St C σ s₁ ∧ Fm C σ s₁.heap (callEnvC fd s.heap.objs.size f) (names.zip args) ∧ (∀ b o, s.heap.get? b = some o → s₁.heap.get? b = some o) := by
  obtain ⟨⟨⟨h, tk, rfl⟩, ns, keep, fr⟩, cell, apart, above⟩ := x
  have L : (callEnvC fd s.heap.objs.size f).locals = s.heap.objs.size := rfl
  have e0 : Evo σ s.heap σ h := .ext keep
  have fresh : ∀ b, s.heap.objs.size ≤ b → σ b = none := fun b hb => by
    cases q : σ b with
    | none => rfl
    | some o =>
      obtain ⟨y, hy, _⟩ := (S.rep _ _ q).isSome
      exact absurd (Heap.lt_size hy) (Nat.not_lt.mpr hb)
  have up : ∀ n c, (callEnvC fd s.heap.objs.size f).cells.lookup n = some c → s.heap.objs.size < c := fun n c hc => L ▸ above n c (mem_of_lookup hc)
  refine ⟨S.ext keep, ⟨hk, ⟨_, ns, fun y v hy hv => bindL_get names vals args _ (r.mono e0.tup) nd hy hv⟩, fresh _ (L ▸ Nat.le_refl _), L ▸ S.size, fun y c hc => ⟨_, cell y c hc, fun v hv => ?_⟩, fun y c hc => ?_, fun y z c hy hz => ?_⟩, keep⟩
  · refine bindC_get names vals args _ (r.mono e0.tup) nd ?_ hv
    rcases cellsFrom_mem _ _ _ _ _ (mem_of_lookup hc) with q | q
    · cases q
    · have := List.all_eq_true.mp hsc _ q
      intro z
      have z' : fd.scope.names.lookup y = some .local := z
      simp only [bne_self_eq_false, Bool.false_or, beq_iff_eq] at this
      rw [z'] at this; cases this
  · have := up y c hc
    exact ⟨fresh c (Nat.le_of_lt this), fun q => by rw [q, L] at this; exact Nat.lt_irrefl _ this, Nat.le_trans S.size (Nat.le_of_lt this)⟩
  · exact name_of_addr apart (mem_of_lookup hy) (mem_of_lookup hz)

theorem EP.ret {s₁ : Shared} {fd : FuncData} {f : Addr} {Q : V → Store → Prop} {fl : Flow} {s' : Shared} (S : St C σ s) (keep : ∀ b o, s.heap.get? b = some o → s₁.heap.get? b = some o)
    (hup : ∀ n c, (callEnvC fd s.heap.objs.size f).cells.lookup n = some c → s.heap.objs.size < c)
    (z : SP C (callEnvC fd s.heap.objs.size f) σ s₁.heap (fun g _ σ' => Q g.val σ') fl s') : EP C σ s.heap Q (fval fl) s' := by
  obtain ⟨g, ρ', σ', q, r, S', F', e⟩ := z
  refine ⟨g.val, σ', q, r.val, S', fun b o hb n => ?_, fun b o hb => ?_, e.mono, fun a o i h => e.tup _ _ i (keep _ _ h)⟩
  · refine e.keep b o (keep b o hb) n ?_
    have hlt := Heap.lt_size hb
    rintro (q | ⟨x, hx⟩)
    · rw [q] at hlt; exact Nat.lt_irrefl _ hlt
    · exact absurd (hup x b hx) (Nat.not_lt.mpr (Nat.le_of_lt hlt))
  · rcases e.dom b o hb with h | h
    · exact .inl h
    · right
      cases q : s.heap.get? b with
      | none => rfl
      | some y => rw [keep b y q] at h; cases h

/-- a call of a def that raises nothing -/
theorem CallWP.fn {f : Addr} {o : Obj} {fd : FuncData} {body : List Stmt} {names : List Str} {args : List V} {Q : V → Store → Prop}
    (ho : C.h₀.get? f = some o) (hd : o.data = .func fd) (hlim : C.h₀.NoLimit) (hcd : C.h₀.CodeRec fd.code fd.qualname) (hbody : fd.body = .stmts body)
    (hbind : ∀ vals : List Value, vals.length = args.length → bindArgs fd ⟨vals, []⟩ = pure (names.zip vals)) (hclo : fd.closure = []) (nd : names.Nodup)
    (hkind : ∀ x ∈ names, fd.scope.names.lookup x = some .local ∨ (fd.scope.names.lookup x = some .cell ∧ ∀ L, ((cellsFrom L fd.scope.names []).lookup x).isSome = true))
    (hroom : A.depth < recursionLimit) (hsc : scopeOk fd.scope = true) (hco : fd.scope.isCoroutine = false) (hgen : fd.scope.isGenerator = false) (hk : fd.scope.kind = .function)
    (h : ∀ L, Exs C (A.deeper (callEnvC fd L f)) (callEnvC fd L f) body (names.zip args) σ (fun g _ σ' => Q g.val σ') (fun _ _ => False)) : CallWP C A (.ref f) args σ Q X := by
  intro s vs S r
  have hk' : ∀ b o, C.h₀.get? b = some o → s.heap.get? b = some o := S.base
  refine wpAny_call (codeAny_call_cells (fd := fd) hroom (hk' _ _ ho) hd (hlim.keeps hk') (hcd.keeps hk') hbody (hbind vs r.length) hclo ?_ (fun s₁ x => ?_) hco hgen hk)
  · intro y hy
    rcases hkind y.1 (List.of_mem_zip hy).1 with q | ⟨q, q'⟩
    · exact .inl q
    · exact .inr ⟨q, q' _⟩
  · obtain ⟨S₁, F₁, keep⟩ := S.callee r nd hk hsc x
    refine wpAny_mono (h s.heap.objs.size s₁ S₁ F₁) (fun fl s' z => ?_) (fun _ _ z => z.elim)
    have y := EP.ret S keep (fun n c hc => x.above n c (mem_of_lookup hc)) z
    cases fl <;> exact y
end

end Mine

set_option autoImplicit false
set_option linter.unusedVariables false
namespace Mine
open PySem PySem.W

section
variable {C : Cx} {A : Around} {env : Env} {ρ : Rho} {σ : Store} {X : XP} {s : Shared}

theorem St.K (S : St C σ s) : C.K.In s.heap := fun a o e => S.base _ _ (C.KX a o e)
theorem VR.base {v : Value} {x : V} (r : VR C.h₀ v x) (S : St C σ s) : VR s.heap v x := r.mono fun _ _ _ e => S.base _ _ e

theorem Ev.glob {x : Str} {pos : Pos} {v : Value} {y : V} {Q : V → Store → Prop} (hk : env.kindOf x = some .globalImplicit) (e : nsIn C.K mainGlobals x = some (some v)) (r : VR C.h₀ v y) (h : Q y σ)
    (hg : env.globals = mainGlobals) (hd : (x == ("__debug__" : Str)) = false) : Ev C A env (.Name x pos) ρ σ Q X := by
  intro s S F
  refine Calls.Name_function_global F.fn hk (Calls.loadGlobal_global (mg := C.mg) ?_ (mg_of C.KX C.hg e) (EP.pure S h (r.base S))) hd
  rw [hg]; exact C.hg.keeps S.base
theorem Ev.gblt {x : Str} {pos : Pos} {v : Value} {y : V} {Q : V → Store → Prop} (hk : env.kindOf x = some .globalImplicit) (e : nsIn C.K mainGlobals x = some none) (hv : bootBuiltins x = some v) (r : VR C.h₀ v y) (h : Q y σ)
    (hn : x ≠ "__name__") (hg : env.globals = mainGlobals) (hb : env.builtins = builtinsNs) (hd : (x == ("__debug__" : Str)) = false) : Ev C A env (.Name x pos) ρ σ Q X := by
  intro s S F
  refine Calls.Name_function_global F.fn hk (Calls.loadGlobal_builtin (mg := C.mg) (mb := C.mb) ?_ (mg_none_of C.KX C.hg e) ?_ ((C.blt x hn).trans hv) (EP.pure S h (r.base S))) hd
  · rw [hg]; exact C.hg.keeps S.base
  · rw [hb]; exact C.hb.keeps S.base

/- calls -/
/-- f may be called: its keeper is plain wherever the base stands -/
def Kp (C : Cx) (f : Value) : Prop := ∀ h : Heap, (∀ b o, C.h₀.get? b = some o → h.get? b = some o) → ∃ k, (k = Keeper.frame ∨ k = Keeper.machine ∨ k = Keeper.boundFrame) ∧ Looks C.M h (keeperOf f) k
theorem Kp.ref {f : Value} (e : keepIn C.K f = true) : Kp C f := fun h k => keeps_K e h fun a o q => k _ _ (C.KX a o q)
theorem Kp.blt {i : String} : Kp C (.builtin i) := fun h k => ⟨.machine, .inr (.inl rfl), .now⟩
theorem Kp.typ {i : String} : Kp C (.type i) := fun h k => ⟨.machine, .inr (.inl rfl), .now⟩

theorem evalArgs_sp {M : Model} {E : XP} {f : Value} {Q : Args → Shared → Prop} : ∀ {trees : List (Bool × Sem Value)}, trees.any (·.1) = false → wpAny M A (spliced trees) (fun vs s' => Q ⟨vs, []⟩ s') E s → wpAny M A (evalArgs f true trees []) Q E s
  | [], _, h => by
    unfold evalArgs
    show wpAny M A (spliced [] >>= _) Q E s
    refine wpAny_bind (wpAny_mono h (fun vs s' h' => ?_) fun _ _ x => x)
    refine wpAny_holding ?_
    exact wpAny_bind (wpAny_pure (wpAny_bind (wpAny_pure (wpAny_pure h'))))
  | (false, x) :: rest, _, h => Calls.evalArgs_plain h
  | (true, x) :: rest, e, _ => by simp at e

theorem callWith_mine {pos : Pos} {f : Value} {first : List Value} {fx : List V} {args : List Expr} {Q : V → Store → Prop} (kp : Kp C f) (S : St C σ s) (F : Fm C σ s.heap env ρ) (rf : VRs s.heap first fx)
    (h : Ags C A env pos args ρ σ (fun xs σ1 => CallWP C A f (fx ++ xs) σ1 Q X) X)
    (he : (backTo pos (starEach args env)).any (·.1) = false) :
    wpAny C.M A (callWith pos f first (backTo pos (starEach args env)) []) (EP C σ s.heap Q) X s := by
  refine callWith_of (P := fun h => ∀ b o, C.h₀.get? b = some o → h.get? b = some o) (by rw [he]; rfl) kp ?_
  refine evalArgs_sp he (wpAny_mono (h s S F) ?_ fun _ _ z => z)
  rintro vs s1 ⟨xs, σ1, q, r1, S1, e1⟩
  exact ⟨S1.base, wpAny_mono (q s1 _ S1 ((rf.mono e1.tup).append r1)) (fun _ _ z => z.after e1) fun _ _ z => z⟩

/- attributes of own instances -/
theorem dict_obj {kvs : List (Str × Value)} {h : Heap} {dx : Addr} (D : h.DictOf (strKind C.prog C.w) dx kvs) : ∃ es n, h.get? dx = some (dictOf es n) ∧ Pairs (strKind C.prog C.w) es kvs ∧ KeysOf (strKind C.prog C.w) es.toArray ∧ (kvs.map (·.1)).Nodup := by
  obtain ⟨⟨c, d, dt, sl⟩, es, ep, ho, ⟨hc, hd, hs⟩, hdt, hk, hp, hn⟩ := D
  dsimp only at hc hd hs hdt
  subst hc hd hs hdt
  exact ⟨es.toList, ep, by simpa using ho, hp, by simpa using hk, hn⟩

theorem PR.find {h : Heap} {K : Type} [DecidableEq K] {x : K} {y : V} {kvs : List (K × Value)} {es : List (K × V)} (z : PR h kvs es) : (es.find? fun p => decide (p.1 = x)).map (·.2) = some y → ∃ v, (kvs.find? fun p => decide (p.1 = x)).map (·.2) = some v ∧ VR h v y := by
  induction z with
  | nil => intro e; cases e
  | @cons k _ _ _ _ r rs ih =>
    intro e
    by_cases q : k = x
    · subst q
      simp only [List.find?_cons, decide_true, Option.map_some, Option.some.injEq] at e ⊢
      subst e
      exact ⟨_, rfl, r⟩
    · simp only [List.find?_cons, q, decide_false] at e ⊢
      exact ih e
theorem PR.find_none {h : Heap} {K : Type} [DecidableEq K] {x : K} {kvs : List (K × Value)} {es : List (K × V)} (z : PR h kvs es) : (es.find? fun p => decide (p.1 = x)) = none → (kvs.find? fun p => decide (p.1 = x)) = none := by
  induction z with
  | nil => intro _; rfl
  | @cons k _ _ _ _ r rs ih =>
    intro e
    by_cases q : k = x
    · subst q; simp at e
    · simp only [List.find?_cons, q, decide_false] at e ⊢
      exact ih e

theorem isStr_is (x : Str) (v : Value) : v.isStr x = Value.isStrOf x v := by cases v <;> rfl
theorem isStr_fun (x : Str) : (fun e : DictEntry => e.key.isStr x) = fun e => (strKind C.prog C.w).is x e.key := by
  funext e; exact isStr_is x e.key
theorem noRef_of_keys {es : List DictEntry} (hk : KeysOf (strKind C.prog C.w) es.toArray) : es.any (·.refKey) = false := by
  rw [List.any_eq_false]
  intro e he
  obtain ⟨k, q, _⟩ := hk e (by simpa using he)
  obtain ⟨t, hx⟩ := Value.isStrOf_shape q
  simp [DictEntry.refKey, hx]

theorem getL_of {kvs : List (Str × Value)} {es : List DictEntry} {x : Str} (hp : Pairs (strKind C.prog C.w) es kvs) (hk : KeysOf (strKind C.prog C.w) es.toArray) : getL x es = some (valueAt kvs x) := by
  have := hp.find x
  unfold getL
  rw [isStr_fun (C := C)]
  cases q : es.find? fun e => (strKind C.prog C.w).is x e.key with
  | some e => rw [q] at this; simpa using this
  | none =>
    rw [q] at this
    dsimp only
    rw [noRef_of_keys hk, ← this]
    rfl

def sget (es : List (Str × V)) (x : Str) : Option V := (es.find? fun p => decide (p.1 = x)).map (·.2)

theorem Ev.attr {o : Expr} {name : Str} {pos : Pos} {Q : V → Store → Prop}
    (h : Ev C A env o ρ σ (fun x σ1 => ∃ a c dx es y attr, x = .ref a ∧ σ1 a = some (.inst c dx) ∧ σ1 dx = some (.sd es) ∧ sget es name = some y ∧ plainGet C.K c name = true ∧ hasDictIn C.K c = true ∧
      findIn C.K (.ref c) name = some attr ∧ noGet C.K attr = true ∧ (∀ i, y ≠ .blt i) ∧ Q y σ1) X)
    (hbase : attributeBase o name env (eval o env) = eval o env := by kernel_rfl) : Ev C A env (.Attribute o name pos) ρ σ Q X := by
  intro s S F
  rw [arm_eval_Attribute, hbase]
  refine wpAny_bind (wpAny_mono (h s S F) ?_ fun _ _ z => z)
  rintro v s1 ⟨x, σ1, ⟨a, c, dx, es, y, attr, rfl, ha, hdx, hy, k1, k2, k3, k4, k5, q⟩, r1, S1, e1⟩
  cases r1
  have I0 := S1.rep _ _ ha
  obtain ⟨kvs, D, pr⟩ := S1.rep _ _ hdx
  obtain ⟨des, n, hd, hp, hk, hn⟩ := dict_obj D
  obtain ⟨u, hu, ru⟩ := pr.find (x := name) (y := y) hy
  have hv : handedIn u = true := by
    cases ru <;> try rfl
    exact absurd rfl (k5 _)
  refine wpAny_bind (wpAny_standAt (wpAny_bind (wpAny_holding ?_)))
  refine get_value S1.K ⟨I0, rfl, rfl, hd⟩ (plainGet_of k1).1 (findObj_own k2 k3 k4 ?_) hv ?_
  · rw [lookIn_dict, getL_of hp hk]; exact congrArg some hu
  · refine wpAny_bind (wpAny_letTemporaryGo (wpAny_pure ?_))
    exact ⟨y, σ1, q, ru, S1.toks _, e1⟩
end

end Mine

set_option autoImplicit false
set_option linter.unusedVariables false
namespace Mine
open PySem PySem.W

/-- str-keyed store -/
def sput : List (Str × V) → Str → V → List (Str × V)
  | [], x, v => [(x, v)]
  | (y, u) :: r, x, v => if x = y then (x, v) :: r else (y, u) :: sput r x v

section
variable {C : Cx} {A : Around} {env : Env} {ρ : Rho} {σ : Store} {X : XP} {s : Shared}

theorem PR.length {K : Type} {h : Heap} {a : List (K × Value)} {b : List (K × V)} (z : PR h a b) : a.length = b.length := by
  induction z with
  | nil => rfl
  | cons _ _ ih => exact congrArg (· + 1) ih
theorem stored_cons {K : Type} [DecidableEq K] {k x : K} {u v : Value} {r : List (K × Value)} (hn : (((k, u) :: r).map (·.1)).Nodup) :
    stored ((k, u) :: r) x v = if x = k then (x, v) :: r else (k, u) :: stored r x v := by
  by_cases q : x = k
  · subst q
    have : x ∉ r.map (·.1) := (List.nodup_cons.mp hn).1
    simp only [stored, List.any_cons, decide_true, Bool.true_or, if_true, List.map_cons]
    rw [map_store_of_not_mem r x v this]
  · have q' : ¬ k = x := fun e => q e.symm
    simp only [stored, List.any_cons, q', decide_false, Bool.false_or, List.map_cons, if_false, q]
    split <;> rfl

theorem PR.stored {h : Heap} {x : Str} {v : Value} {y : V} (r : VR h v y) {kvs : List (Str × Value)} {es : List (Str × V)} (z : PR h kvs es) : (kvs.map (·.1)).Nodup → PR h (stored kvs x v) (sput es x y) := by
  induction z with
  | nil =>
    intro _
    show PR h (PySem.stored [] x v) [(x, y)]
    simp only [PySem.stored, List.any_nil, Bool.false_eq_true, if_false, List.nil_append]
    exact .cons r .nil
  | @cons k _ _ _ _ a b ih =>
    intro hn
    rw [stored_cons hn]
    unfold sput
    by_cases q : x = k
    · rw [if_pos q, if_pos q]; exact .cons r b
    · rw [if_neg q, if_neg q]; exact .cons a (ih (List.nodup_cons.mp hn).2)

theorem putName_dict {h : Heap} {d : Addr} {kvs : List (Str × Value)} {name : Str} {v : Value} {t : Tok} (D : h.DictOf (strKind C.prog C.w) d kvs) :
    ∃ es n, (h.update d (Obj.putName name (hashStr C.w name) (.str name t) v)).get? d = some (dictOf es n) ∧ es.length ≤ kvs.length + 1 ∧
    (h.update d (Obj.putName name (hashStr C.w name) (.str name t) v)).DictOf (strKind C.prog C.w) d (stored kvs name v) := by
  obtain ⟨⟨c, dd, dt, sl⟩, es, ep, ho, ⟨hc, hd, hs⟩, hdt, hk, hp, hn⟩ := D
  dsimp only at hc hd hs hdt
  subst hc hd hs hdt
  have hkey : (strKind C.prog C.w).is name (.str name t) = true := by show (name == name) = true; simp
  have hidx : (es.findIdx? fun e => (strKind C.prog C.w).is name e.key) = kvs.findIdx? fun kv => decide (kv.1 = name) := by
    rw [← hp.findIdx name]; obtain ⟨l⟩ := es; simp
  have hlen := hp.length
  have e0 : (es.findIdx? fun e => e.key.isStr name) = es.findIdx? fun e => (strKind C.prog C.w).is name e.key := by rw [isStr_fun (C := C)]
  cases hi : es.findIdx? fun e => (strKind C.prog C.w).is name e.key with
  | some i =>
    have e1 : Obj.putName name (hashStr C.w name) (.str name t) v ⟨.type "dict", none, .dict es ep, #[]⟩ = dictOf (es.modify i fun e => { e with val := v }).toList ep := by
      rw [Obj.putName_eq]; unfold Obj.putNameByArray; dsimp only; rw [e0, hi]
    have g : (h.update d (Obj.putName name (hashStr C.w name) (.str name t) v)).get? d = some (dictOf (es.modify i fun e => { e with val := v }).toList ep) := by
      rw [Heap.get?_update_self _ ho (by rw [e1]; rfl), e1]
    refine ⟨_, _, g, by simp at hlen ⊢; (first | lia | omega), _, _, ep, g, ⟨rfl, rfl, rfl⟩, rfl, by rw [Array.toArray_toList]; exact hk.modify i v, ?_, ?_⟩
    · rw [stored, if_pos (any_of_findIdx_some (hidx ▸ hi))]
      have hl : (es.toList.findIdx? fun e => (strKind C.prog C.w).is name e.key) = some i := by rw [← hi]; obtain ⟨l⟩ := es; simp
      have := hp.modify hn hl v
      obtain ⟨l⟩ := es
      simpa using this
    · rw [stored, if_pos (any_of_findIdx_some (hidx ▸ hi)), keys_map_store]; exact hn
  | none =>
    have hnot : name ∉ kvs.map (·.1) := not_mem_of_findIdx_none (hidx ▸ hi)
    have hany : ¬ (kvs.any fun kv => decide (kv.1 = name)) = true := by
      rw [List.any_eq_true]; rintro ⟨kv, hkv, he⟩
      exact hnot (List.mem_map.mpr ⟨kv, hkv, of_decide_eq_true he⟩)
    have e1 : Obj.putName name (hashStr C.w name) (.str name t) v ⟨.type "dict", none, .dict es ep, #[]⟩ = dictOf (es.push ⟨hashStr C.w name, .str name t, v⟩).toList (ep + 1) := by
      rw [Obj.putName_eq]; unfold Obj.putNameByArray; dsimp only; rw [e0, hi]
    have g : (h.update d (Obj.putName name (hashStr C.w name) (.str name t) v)).get? d = some (dictOf (es.push ⟨hashStr C.w name, .str name t, v⟩).toList (ep + 1)) := by
      rw [Heap.get?_update_self _ ho (by rw [e1]; rfl), e1]
    refine ⟨_, _, g, by simp at hlen ⊢; (first | lia | omega), _, _, ep + 1, g, ⟨rfl, rfl, rfl⟩, rfl, by rw [Array.toArray_toList]; exact hk.push hkey v, ?_, ?_⟩
    · rw [stored, if_neg hany]
      have := hp.append hkey (hashStr C.w name) v
      obtain ⟨l⟩ := es
      simpa using this
    · rw [stored, if_neg hany, List.map_append, List.nodup_append]
      refine ⟨hn, by simp, ?_⟩
      intro a ha b hb
      simp only [List.map_cons, List.map_nil, List.mem_singleton] at hb
      subst hb
      exact fun e => hnot (e ▸ ha)

theorem setAttr_mine {x c dx : Addr} {kvs : List (Str × Value)} {name : Str} {v : Value} {E : XP} {Q : Unit → Shared → Prop} (KX : C.K.In s.heap) (hx : s.heap.get? x = some (instO c dx)) (D : s.heap.DictOf (strKind C.prog C.w) dx kvs)
    (hs : findIn C.K (.ref c) "__setattr__" = some (some (.builtin "object.__setattr__"))) (hp : plainOver C.K c = true) (ht : takerIn C.K c name = some none) (hh : hasDictIn C.K c = true) (hz : kvs.length ≤ 1000)
    (h : ∀ h', h'.DictOf (strKind C.prog C.w) dx (stored kvs name v) → Heap.SameBut dx s.heap h' → Q () { s with heap := h', toks := s.toks + 1 + 1 }) : wpAny C.M A (setAttr (.ref x) name v) Q E s := by
  obtain ⟨es, n, hd, hpr, hk, hn⟩ := dict_obj D
  have I : InstAt s.heap x (instO c dx) c (some (dictOf es n)) := ⟨hx, rfl, rfl, hd⟩
  refine set_plain KX I hs (osa_open (s := { s with toks := s.toks + 1 }) KX I hp ht fun b => ?_)
  obtain ⟨cd, hc, hd'⟩ := any_some hh
  refine wpAny_bind (wpAny_pure (wpAny_bind (wpAny_bind (wpAny_loadPart (s := { s with toks := s.toks + 1 }) hx (wpAny_bind (Looks.here (s := { s with toks := s.toks + 1 }) (looks_clsIn KX hc) ?_))))))
  rw [hd']
  refine wpAny_pure (a := some dx) (wpAny_bind (wpAny_pure (wpAny_bind ?_)))
  unfold nsSet
  refine wpAny_bind (wpAny_bind (wpAny_askSetting (wpAny_pure (wpAny_bind (wpAny_mkText (wpAny_bind (wpAny_loadPart (s := { s with toks := s.toks + 1 + 1 }) hd ?_)))))))
  have cc : (!es.toArray.any (·.key.isStr name) && es.toArray.any (·.refKey)) = false := by
    rw [← Array.any_toList, ← Array.any_toList]
    simp only [noRef_of_keys hk, Bool.and_false]
  dsimp only
  rw [aRefKeyMayBeTheName_at, cc]
  obtain ⟨es', n', g, hl, D'⟩ := putName_dict (name := name) (v := v) (t := s.toks + 1) D
  refine wpAny_updatePart (s := { s with toks := s.toks + 1 + 1 }) hd ?_
  refine wpAny_bind (wpAny_lookBehind g (pastItsLine_dict (by rw [List.size_toArray, sizeLine_eq]; (first | lia | omega))) ?_)
  exact wpAny_pure (h _ D' (Heap.SameBut.update ..))

theorem Asg.attr {o : Expr} {name : Str} {pos : Pos} {y : V} {Q : Rho → Store → Prop}
    (h : Ev C A env o ρ σ (fun x σ1 => ∃ a c dx es, x = .ref a ∧ σ1 a = some (.inst c dx) ∧ σ1 dx = some (.sd es) ∧ es.length ≤ 1000 ∧
      findIn C.K (.ref c) "__setattr__" = some (some (.builtin "object.__setattr__")) ∧ plainOver C.K c = true ∧ takerIn C.K c name = some none ∧ hasDictIn C.K c = true ∧ Q ρ (σ1.upd dx (.sd (sput es name y)))) X) :
    Asg C A env (.Attribute o name pos) y ρ σ Q X := by
  intro s v S F r
  rw [assign_Attribute]
  refine wpAny_bind (wpAny_holding (wpAny_mono (h s S F) ?_ fun _ _ z => z))
  rintro ov s1 ⟨x, σ1, ⟨a, c, dx, es, rfl, ha, hdx, hz, k1, k2, k3, k4, q⟩, r1, S1, e1⟩
  cases r1
  have I0 := S1.rep _ _ ha
  have hdx' := S1.rep _ _ hdx
  obtain ⟨kvs, D, pr⟩ := hdx'
  have hl : kvs.length = es.length := pr.length
  have hnd : (kvs.map (·.1)).Nodup := by obtain ⟨_, _, _, _, _, _, _, _, hn⟩ := D; exact hn
  refine wpAny_bind (wpAny_standAt (wpAny_bind (wpAny_holding (setAttr_mine S1.K I0 D k1 k2 k3 k4 (by (first | lia | omega)) fun h' D' sb => ?_))))
  refine PyProof.Rows.wpAny_release' ?_
  have tk : TupKeep s1.heap h' := tupKeep_sameBut sb (S1.rep _ _ hdx).notTup
  obtain ⟨S2, e2⟩ := S1.set (t := s1.toks + 1 + 1) (o' := .sd (sput es name y)) hdx sb ⟨_, D', PR.stored ((r.mono e1.tup).mono tk) (pr.mono tk) hnd⟩
  exact ⟨ρ, _, q, S2, (F.evo e1).evo e2, (e1.trans e2).evoF F.own⟩

/- a method of an own object -/

theorem Ev.meth {o : Expr} {name : Str} {apos pos : Pos} {args : List Expr} {Q : V → Store → Prop} {pl : Sem Bool}
    (h : Ev C A env o ρ σ (fun x σ1 => ∃ a c dx es f, x = .ref a ∧ σ1 a = some (.inst c dx) ∧ σ1 dx = some (.sd es) ∧ sget es name = none ∧ plainGet C.K c name = true ∧
      findIn C.K (.ref c) name = some (some (.ref f)) ∧ isFn C.K (.ref f) = true ∧ keepIn C.K (.ref f) = true ∧ Ags C A env pos args ρ σ1 (fun xs σ2 => CallWP C A (.ref f) (.ref a :: xs) σ2 Q X) X) X)
    (he : eval (.Call (.Attribute o name apos) args [] pos) env = (do
      let ov ← eval o env
      standAt apos.atName
      let (f, first) ← holding [ov] (getMethod ov name pl)
      callWith pos f first (backTo pos (starEach args env)) (backToKw pos (keywordEach [] env))) := by kernel_rfl)
    (hst : (backTo pos (starEach args env)).any (·.1) = false := by kernel_rfl) : Ev C A env (.Call (.Attribute o name apos) args [] pos) ρ σ Q X := by
  intro s S F
  refine methodCall_KW (wpAny_mono (h s S F) ?_ fun _ _ z => z) he
  rintro ov s1 ⟨x, σ1, ⟨a, c, dx, es, f, rfl, ha, hdx, hy, k1, k2, k3, k4, q⟩, r1, S1, e1⟩
  cases r1
  have I0 := S1.rep _ _ ha
  obtain ⟨kvs, D, pr⟩ := S1.rep _ _ hdx
  obtain ⟨des, n, hd, hp, hk, hn⟩ := dict_obj D
  have hy' : (es.find? fun p => decide (p.1 = name)) = none := by
    unfold sget at hy
    cases q : es.find? fun p => decide (p.1 = name) with
    | none => rfl
    | some z => rw [q] at hy; cases hy
  have I : InstAt s1.heap a (instO c dx) c (some (dictOf des n)) := ⟨I0, rfl, rfl, hd⟩
  refine method_fn S1.K I (plainGet_of k1).1 (plainGet_of k1).2 k2 (beq_iff_eq.mp k3) ?_ ?_
  · show (lookIn name (dictOf des n)).map _ = _
    rw [lookIn_dict, getL_of hp hk]
    unfold valueAt
    rw [pr.find_none hy']; rfl
  · exact wpAny_mono (callWith_mine (first := [.ref a]) (fx := [.ref a]) (Kp.ref k4) S1 (F.evo e1) (.cons (.ref _) .nil) q hst) (fun _ _ z => z.after e1) fun _ _ z => z
end

end Mine

set_option autoImplicit false
set_option linter.unusedVariables false
namespace Mine
open PySem PySem.W

/-- an iterator: `ow` are its own objects, `J k` its state ahead of its k-th item -/
structure Itr (C : Cx) (A : Around) (target : Expr) (it : Value) (ow : Addr → Prop) (J : Nat → Heap → Prop) (ok : Store → Prop) (xs : List V) : Prop where
  frame : ∀ k h h', J k h → TupKeep h h' → (∀ b o, ow b → h.get? b = some o → h'.get? b = some o) → J k h'
  notTup : ∀ k h b o, J k h → ow b → h.get? b = some o → ¬ Imm o
  notD : ∀ k h b o, J k h → ow b → h.get? b = some o → ∀ es n, o.data ≠ .dict es n
  there : ∀ k h b, J k h → ow b → ∃ o, h.get? b = some o
  more : ∀ k σ s x (Q : Option Value → Shared → Prop) (X : XP), St C σ s → ok σ → J k s.heap → xs[k]? = some x → (∀ b, ow b → σ b = none) →
    (∀ v h' tk, VR h' v x → (∀ b o, ¬ ow b → s.heap.get? b = some o → h'.get? b = some o) → (∀ b o, ow b → h'.get? b = some o → ¬ Imm o) →
      (∀ (Q' : Unit → Shared → Prop) (X' : XP), (∀ h'' tk', J (k + 1) h'' → (∀ b o, ¬ ow b → h'.get? b = some o → h''.get? b = some o) → Q' () { s with heap := h'', toks := tk' }) →
        wpAny C.M A (letOwnedTupleGo target it v) Q' X' { s with heap := h', toks := tk }) → Q (some v) { s with heap := h', toks := tk }) → wpAny C.M A (pyNext it) Q X s
  self : ∀ k (s : Shared) (Q : Value → Shared → Prop) (X : XP), J k s.heap → Q it s → wpAny C.M A (pyIter it) Q X s
  done : ∀ k σ s (Q : Option Value → Shared → Prop) (X : XP), St C σ s → ok σ → J k s.heap → xs[k]? = none → (∀ b, ow b → σ b = none) →
    (∀ h' tk, (∀ b o, ¬ ow b → s.heap.get? b = some o → h'.get? b = some o) → Q none { s with heap := h', toks := tk }) → wpAny C.M A (pyNext it) Q X s

section
variable {C : Cx} {A : Around} {env : Env} {ρ : Rho} {σ : Store} {X : XP} {s : Shared}

theorem tk_ow {h h' : Heap} {ow : Addr → Prop} (k : ∀ b o, ¬ ow b → h.get? b = some o → h'.get? b = some o) (nt : ∀ b o, ow b → h.get? b = some o → ¬ Imm o) : TupKeep h h' :=
  fun a o i e => k a _ (fun q => nt a o q e i) e
theorem St.ow {h' : Heap} {t : Nat} {ow : Addr → Prop} (S : St C σ s) (k : ∀ b o, ¬ ow b → s.heap.get? b = some o → h'.get? b = some o) (nt : ∀ b o, ow b → s.heap.get? b = some o → ¬ Imm o)
    (no : ∀ b, ow b → σ b = none) (nb : ∀ b, ow b → C.h₀.get? b = none) : St C σ { s with heap := h', toks := t } :=
  ⟨fun b o e => k b o (fun q => by rw [nb b q] at e; cases e) (S.base b o e), fun a o e => (S.rep a o e).at (fun x hx => k a x (fun q => by rw [no a q] at e; cases e) hx) (tk_ow k nt), S.above, S.gens, S.os⟩
theorem Fm.ow {h h' : Heap} {ow : Addr → Prop} (F : Fm C σ h env ρ) (k : ∀ b o, ¬ ow b → h.get? b = some o → h'.get? b = some o) (nt : ∀ b o, ow b → h.get? b = some o → ¬ Imm o) (no : ∀ b, ow b → ¬ Own env b) : Fm C σ h' env ρ := by
  obtain ⟨f1, ⟨m, hm, f2⟩, f3, f5, f6, f7, f8⟩ := F
  have tk := tk_ow k nt
  obtain ⟨o, es, ep, ho, rest⟩ := hm
  refine ⟨f1, ⟨m, ⟨o, es, ep, k _ _ (fun q => no _ q (.inl rfl)) ho, rest⟩, fun x v hx hv => ?_⟩, f3, f5, fun x c hc => ?_, f7, f8⟩
  · obtain ⟨u, a, b⟩ := f2 x v hx hv
    exact ⟨u, a, b.mono tk⟩
  · obtain ⟨ov, a, b⟩ := f6 x c hc
    refine ⟨ov, isCell_at a fun o e => k _ _ (fun q => no _ q (.inr ⟨x, hc⟩)) e, fun v hv => ?_⟩
    obtain ⟨u, p, q⟩ := b v hv
    exact ⟨u, p, q.mono tk⟩
theorem EvoF.ow {σ0 : Store} {h0 h h' : Heap} {ow : Addr → Prop} (e : EvoF env σ0 h0 σ h) (k : ∀ b o, ¬ ow b → h.get? b = some o → h'.get? b = some o) (fr : ∀ b, ow b → h0.get? b = none) : EvoF env σ0 h0 σ h' := by
  refine ⟨fun b o q n w => (e.keep b o q n w).trans fun o' q' => .inl (k b o' (fun z => by rw [fr b z] at q; cases q) q'), e.dom, e.mono, fun a i n q => k a _ (fun z => by rw [fr a z] at q; cases q) (e.tup a i n q), fun b o q w => ?_⟩
  obtain ⟨o', q'⟩ := e.there b o q w
  exact ⟨o', k b o' (fun z => by rw [fr b z] at q; cases q) q'⟩

/-- the turns of a for -/
theorem for_turns {target : Expr} {it : Value} {body : List Stmt} {ow : Addr → Prop} {J : Nat → Heap → Prop} {ok : Store → Prop} {xs : List V} (W : Itr C A target it ow J ok xs) {σ0 : Store} {h0 : Heap}
    (I : Nat → Rho → Store → Prop) (Q : FV → Rho → Store → Prop)
    (fr : ∀ b, ow b → h0.get? b = none) (fro : ∀ b, ow b → ¬ Own env b) (frb : ∀ b, ow b → C.h₀.get? b = none)
    (turn : ∀ k ρ σ, I k ρ σ → ok σ ∧ match xs[k]? with
      | none => Q .next ρ σ
      | some x => Asg C A env target x ρ σ (fun ρ1 σ1 => Exs C A env body ρ1 σ1 (fun g ρ2 σ2 => match g with
          | .next | .cont => I (k + 1) ρ2 σ2
          | .brk => Q .next ρ2 σ2
          | .ret v => Q (.ret v) ρ2 σ2) (fun _ _ => False)) (fun _ _ => False)) :
    ∀ m k ρ σ s, xs.length - k = m → I k ρ σ → St C σ s → Fm C σ s.heap env ρ → EvoF env σ0 h0 σ s.heap → J k s.heap → (∀ b, ow b → σ b = none) →
      codeAny C.M A (.forLoop target it body [] env) (fun r s' => match r with | .ok f => SP C env σ0 h0 Q f s' | .error _ => False) s := by
  intro m
  induction m using Nat.strongRecOn with
  | ind m ih =>
  intro k ρ σ s hm hI S F e0 hJ no
  obtain ⟨hok, tn⟩ := turn k ρ σ hI
  refine codeAny_of_tree ?_
  show wpAny C.M _ ((forTurn target it body [] env).onRaise (fun x => do noteFrame x env; theTreesLotGoes x)) _ _ s
  rw [show A.under (.forLoop target it body [] env) = A from Around.under_of_weight (by rfl)]
  refine wpAny_noted ?_
  unfold forTurn
  refine wpAny_bind (wpAny_standAt (wpAny_bind (wpAny_onRaise ?_)))
  have nt : ∀ b o, ow b → s.heap.get? b = some o → ¬ Imm o := fun b o q => W.notTup k _ b o hJ q
  cases hx : xs[k]? with
  | none =>
    rw [hx] at tn
    refine W.done k σ s _ _ S hok hJ hx no fun h' tk kp => ?_
    refine wpAny_pure ⟨rfl, codeAny_of_tree ?_⟩
    show wpAny C.M _ (do return Fin.done (← (execs [] env).onRaise (fun x => do noteFrame x env; theTreesLotGoes x))) _ _ _
    refine wpAny_bind (wpAny_noted (wpAny_execs_nil (wpAny_pure ?_)))
    exact ⟨.next, ρ, σ, tn, .next, S.ow kp nt no frb, F.ow kp nt fro, e0.ow kp fr⟩
  | some x =>
    rw [hx] at tn
    have hk : k < xs.length := by
      have := List.getElem?_eq_some_iff.mp hx
      exact this.1
    refine W.more k σ s x _ _ S hok hJ hx no fun v h' tk rv kp nt' go => ?_
    refine wpAny_bind (go _ _ fun h'' tk' J' kp' => ?_)
    have kp2 : ∀ b o, ¬ ow b → s.heap.get? b = some o → h''.get? b = some o := fun b o q e => kp' b o q (kp b o q e)
    have S2 : St C σ { s with heap := h'', toks := tk' } := S.ow kp2 nt no frb
    have F2 : Fm C σ h'' env ρ := F.ow kp2 nt fro
    have rv2 : VR h'' v x := rv.mono (tk_ow kp' nt')
    refine wpAny_bind (wpAny_mono (tn { s with heap := h'', toks := tk' } v S2 F2 rv2) ?_ fun _ _ z => z.elim)
    rintro _ s3 ⟨ρ1, σ1, q1, S3, F3, e3⟩
    refine wpAny_bind (wpAny_mono (q1 s3 S3 F3) ?_ fun _ _ z => z.elim)
    rintro f s4 ⟨g, ρ2, σ2, q2, r2, S4, F4, e4⟩
    have e04 : EvoF env σ0 h0 σ2 s4.heap := ((e0.ow kp2 fr).trans e3).trans e4
    have al2 : ∀ b, ow b → ∃ o, h''.get? b = some o := fun b q => W.there _ _ b J' q
    have e24 : EvoF env σ h'' σ2 s4.heap := e3.trans e4
    have kpo : ∀ b o, ow b → h''.get? b = some o → s4.heap.get? b = some o := fun b o q e => (e24.keep b o e (no b q) (fro b q)).exact (W.notD _ _ b o J' q e)
    have no4 : ∀ b, ow b → σ2 b = none := fun b q => by
      cases z : σ2 b with
      | none => rfl
      | some o =>
        rcases e24.dom b o z with ⟨o', e'⟩ | e'
        · rw [no b q] at e'; cases e'
        · obtain ⟨o', e2⟩ := al2 b q
          rw [e2] at e'; cases e'
    have again' : I (k + 1) ρ2 σ2 → codeAny C.M A (.forLoop target it body [] env) (fun r s' => match r with | .ok f => SP C env σ0 h0 Q f s' | .error _ => False) s4 := fun hI' =>
      ih (xs.length - (k + 1)) (by (first | lia | omega)) (k + 1) ρ2 σ2 s4 rfl hI' S4 F4 e04 (W.frame _ _ _ J' e24.tup kpo) no4
    cases r2 with
    | next => exact wpAny_pure ⟨rfl, again' q2⟩
    | cont => exact wpAny_pure ⟨rfl, again' q2⟩
    | brk => exact wpAny_pure ⟨.next, ρ2, σ2, q2, .next, S4, F4, e04⟩
    | ret r => exact wpAny_pure ⟨_, ρ2, σ2, q2, .ret r, S4, F4, e04⟩

/-- the turns, item by item -/
def ForL (C : Cx) (A : Around) (env : Env) (target : Expr) (body : List Stmt) (ok : Store → Prop) (Q : FV → Rho → Store → Prop) : List V → Rho → Store → Prop
  | [], ρ, σ => Q .next ρ σ
  | x :: xs, ρ, σ => Asg C A env target x ρ σ (fun ρ1 σ1 => Exs C A env body ρ1 σ1 (fun g ρ2 σ2 => match g with
      | .next | .cont => ok σ2 ∧ ForL C A env target body ok Q xs ρ2 σ2
      | .brk => Q .next ρ2 σ2
      | .ret v => Q (.ret v) ρ2 σ2) (fun _ _ => False)) (fun _ _ => False)

theorem for_run {target : Expr} {it : Value} {body : List Stmt} {ow : Addr → Prop} {J : Nat → Heap → Prop} {ok : Store → Prop} {xs : List V} (W : Itr C A target it ow J ok xs) {σ0 : Store} {h0 : Heap} {Q : FV → Rho → Store → Prop}
    (fr : ∀ b, ow b → h0.get? b = none) (fro : ∀ b, ow b → ¬ Own env b) (frb : ∀ b, ow b → C.h₀.get? b = none) (no : ∀ b, ow b → σ b = none)
    (S : St C σ s) (F : Fm C σ s.heap env ρ) (e0 : EvoF env σ0 h0 σ s.heap) (hJ : J 0 s.heap) (hok : ok σ) (h : ForL C A env target body ok Q xs ρ σ) :
    codeAny C.M A (.forLoop target it body [] env) (fun r s' => match r with | .ok f => SP C env σ0 h0 Q f s' | .error _ => False) s := by
  refine for_turns W (fun k ρ σ => ok σ ∧ ForL C A env target body ok Q (xs.drop k) ρ σ) Q fr fro frb (fun k ρ σ hI => ⟨hI.1, ?_⟩) _ 0 ρ σ s rfl ⟨hok, by simpa using h⟩ S F e0 hJ no
  cases hx : xs[k]? with
  | none =>
    have : xs.drop k = [] := List.drop_eq_nil_of_le (List.getElem?_eq_none_iff.mp hx)
    have h2 := hI.2
    rw [this] at h2
    exact h2
  | some x =>
    obtain ⟨hk, rfl⟩ := List.getElem?_eq_some_iff.mp hx
    have h2 := hI.2
    rw [List.drop_eq_getElem_cons hk] at h2
    exact h2

/-- no tuple of its own to let go -/
theorem letGo_plain {target : Expr} {it : Addr} {v : Value} {o : Obj} {T : String} {Q : Unit → Shared → Prop} {E : XP} (e : s.heap.get? it = some o) (hc : o.cls = .type T)
    (hT : ["enumerate", "zip", "dict_itemiterator", "dict_reverseitemiterator", "odict_iterator", "itertools.zip_longest", "itertools.pairwise"].contains T = false) (h : Q () s) : wpAny C.M A (letOwnedTupleGo target (.ref it) v) Q E s := by
  have key : ∀ (v : Value), wpAny C.M A (do
      let (.ref r, .ref a) := ((Value.ref it, v) : Value × Value) | return
      let o ← load r
      match o.cls, o.data with
      | .type n, .fields vs =>
        if ["enumerate", "zip", "dict_itemiterator", "dict_reverseitemiterator", "odict_iterator", "itertools.zip_longest", "itertools.pairwise"].contains n && vs[0]? == some (rawInt a) then
          rule "for.unpacks-the-owned-tuple"
          updateField r 0 .none
      | _, _ => pure ()) Q E s := fun v => by
    cases v <;> try exact wpAny_pure h
    refine wpAny_bind (wpAny_load e ?_)
    rw [hc]
    cases o.data <;> try exact wpAny_pure h
    simp only [hT, Bool.false_and, Bool.false_eq_true, if_false]
    exact wpAny_pure h
  cases target <;> first | exact wpAny_pure h | exact key v

/- lists -/
theorem Itr.list {target : Expr} {it l : Addr} {xs : List V} (hh : A.handled = none) (hne : it ≠ l) :
    Itr C A target (.ref it) (fun b => b = it) (fun k h => h.IsListIter it l k) (fun σ => LstAt C σ l xs) xs where
  frame := fun k h h' ⟨o, e, r⟩ _ kp => ⟨o, kp it o rfl e, r⟩
  notTup := fun k h b o' ⟨o, e, c, _⟩ q z => by subst q; rw [e] at z; cases z; exact Imm.not (by rw [c]; simp) (by rw [c]; simp) (by rw [c]; simp)
  notD := fun k h b o' ⟨o, e, c, d⟩ q z es n w => by subst q; rw [e] at z; cases z; rw [d] at w; cases w
  there := fun k h b ⟨o, e, _⟩ q => by subst q; exact ⟨o, e⟩
  more := fun k σ s x Q X S hok hJ hx no hQ => by
    obtain ⟨items, hl, hr⟩ := hok.raw S
    obtain ⟨u, hu, ru⟩ := hr.get hx
    refine wpAny_pyNext_list_item hJ hl (by simpa using hu) fun h' J' sb => ?_
    have kp : ∀ b o, ¬ b = it → s.heap.get? b = some o → h'.get? b = some o := fun b o q e => (sb.2 b q).trans e
    have tk : TupKeep s.heap h' := tk_ow (ow := fun b => b = it) kp fun b o' q => by
      subst q
      obtain ⟨o, e, c, _⟩ := hJ
      intro z; rw [e] at z; cases z; exact Imm.not (by rw [c]; simp) (by rw [c]; simp) (by rw [c]; simp)
    refine hQ u h' s.toks (ru.mono tk) kp (fun b o' q z => ?_) (fun Q' X' hq => by
      obtain ⟨o, e, c, _⟩ := id J'
      exact letGo_plain (s := { s with heap := h' }) e c (by decide) (hq h' s.toks J' fun _ _ _ e => e))
    subst q
    obtain ⟨o, e, c, _⟩ := J'
    rw [e] at z; cases z; exact Imm.not (by rw [c]; simp) (by rw [c]; simp) (by rw [c]; simp)
  self := fun k s Q X hJ hq => wpAny_pyIter_listiter hJ hq
  done := fun k σ s Q X S hok hJ hx no hQ => by
    obtain ⟨items, hl, hr⟩ := hok.raw S
    have hn : items[k]? = none := by
      have h1 := List.getElem?_eq_none_iff.mp hx
      have h2 := hr.length
      simp only [Array.length_toList] at h2
      exact Array.getElem?_eq_none_iff.mpr (by (first | lia | omega))
    exact wpAny_pyNext_list_end hh hJ hl hn fun h' kp => hQ h' s.toks fun b o q e => kp b o q e

end

end Mine

set_option autoImplicit false
set_option linter.unusedVariables false
namespace Mine
open PySem PySem.W

section
variable {C : Cx} {A : Around} {env : Env} {ρ : Rho} {σ : Store} {X : XP} {s : Shared}

theorem Evo.ow {σ0 : Store} {h0 h h' : Heap} {ow : Addr → Prop} (e : Evo σ0 h0 σ h) (k : ∀ b o, ¬ ow b → h.get? b = some o → h'.get? b = some o) (fr : ∀ b, ow b → h0.get? b = none) : Evo σ0 h0 σ h' :=
  ⟨fun b o q n => (e.keep b o q n).trans fun o' q' => .inl (k b o' (fun z => by rw [fr b z] at q; cases q) q'), e.dom, e.mono, fun a i n q => k a _ (fun z => by rw [fr a z] at q; cases q) (e.tup a i n q)⟩

theorem plain_kept {h h' : Heap} {a : Addr} {items : Array Value} (x : h.PlainList a items) (k : ∀ o, h.get? a = some o → Kept h' a o) : h'.PlainList a items := by
  obtain ⟨n, e⟩ := x
  exact ⟨n, (k _ e).exact fun es n z => (by cases z)⟩
theorem Fm.less {h : Heap} {ρ' : Rho} (F : Fm C σ h env ρ) (k : ∀ x v, ρ'.get x = some v → ρ.get x = some v) : Fm C σ h env ρ' := by
  obtain ⟨f1, ⟨m, hm, f2⟩, f3, f5, f6, f7, f8⟩ := F
  refine ⟨f1, ⟨m, hm, fun x v hx hv => f2 x v hx (k x v hv)⟩, f3, f5, fun x c hc => ?_, f7, f8⟩
  obtain ⟨ov, a, b⟩ := f6 x c hc
  exact ⟨ov, a, fun v hv => b v (k x v hv)⟩

/-- the tests of a comprehension: none, or one -/
def Ifs (C : Cx) (A : Around) (env : Env) (ifs : List Expr) (ρ : Rho) (σ : Store) (Q : Bool → Store → Prop) (X : XP) : Prop :=
  match ifs with
  | [] => Q true σ
  | [c] => Tst C A env c ρ σ Q X
  | _ => False
theorem Ifs.run {ifs : List Expr} {Q : Bool → Store → Prop} (h : Ifs C A env ifs ρ σ Q X) (S : St C σ s) (F : Fm C σ s.heap env ρ) :
    wpAny C.M A (forIn ifs true fun c r => if r = true then do let ok ← isTrue c env (eval c env); pure (ForInStep.yield ok) else pure (ForInStep.yield r)) (TP C σ s.heap Q) X s := by
  match ifs, h with
  | [], h => exact wpAny_tests_nil (TP.pure S h)
  | [c], h => exact wpAny_tests_one (h s S F)

/-- the turns of a comprehension, item by item -/
def CmpL (C : Cx) (A : Around) (env : Env) (x : Str) (ifs : List Expr) (elt : Expr) (ok : Store → Prop) (ρ : Rho) (R : List V → Store → Prop) : List V → List V → Store → Prop
  | [], out, σ => R out σ
  | y :: ys, out, σ => Ifs C A env ifs (ρ.put x y) σ (fun b σ1 =>
      if b then Ev C A env elt (ρ.put x y) σ1 (fun z σ2 => out.length ≤ sizeLine ∧ ok σ2 ∧ CmpL C A env x ifs elt ok ρ R ys (out ++ [z]) σ2) (fun _ _ => False)
      else ok σ1 ∧ CmpL C A env x ifs elt ok ρ R ys out σ1) (fun _ _ => False)

theorem comp_turns {x : Str} {px pos : Pos} {elt iter : Expr} {ifs : List Expr} {scope : Scope} {it : Value} {ow : Addr → Prop} {J : Nat → Heap → Prop} {ok : Store → Prop} {xs : List V} {acc : Addr}
    (W : Itr C A (.Name x px) it ow J ok xs) {σ0 : Store} {h0 : Heap} {R : List V → Store → Prop} {RR : Result → Shared → Prop}
    (hx : env.kindOf x = some .local) (hxc : env.cells.lookup x = none) (hxr : ρ.get x = none)
    (fr : ∀ b, ow b → h0.get? b = none) (fra : h0.get? acc = none) (frl : h0.get? env.locals = none) (frb : ∀ b, ow b → C.h₀.get? b = none) (frba : C.h₀.get? acc = none)
    (nac : ¬ ow acc) (nal : acc ≠ env.locals) (nol : ¬ ow env.locals) (noo : ∀ b, ow b → ¬ Own env b) (nao : ¬ Own env acc)
    (hR : ∀ out σ s items, R out σ → St C σ s → Evo σ0 h0 σ s.heap → s.heap.PlainList acc items → VRs s.heap items.toList out → σ acc = none → (∃ m, s.heap.Ns env.locals m) → σ env.locals = none → RR (.ok .next) s) :
    ∀ m k out σ s items, xs.length - k = m → ok σ → CmpL C A env x ifs elt ok ρ R (xs.drop k) out σ → St C σ s → Fm C σ s.heap env ρ → Evo σ0 h0 σ s.heap → J k s.heap → (∀ b, ow b → σ b = none) →
      s.heap.PlainList acc items → VRs s.heap items.toList out → σ acc = none →
      codeAny C.M A (.compLoop (.ListComp elt [⟨.Name x px, iter, ifs, 0⟩] scope pos) 0 it (.ref acc) env) RR s := by
  intro m
  induction m using Nat.strongRecOn with
  | ind m ih =>
  intro k out σ s items hm hok hL S F e0 hJ no pl rl na
  have nt : ∀ b o, ow b → s.heap.get? b = some o → ¬ Imm o := fun b o q => W.notTup k _ b o hJ q
  have dn : ∀ (σ' : Store) (h h' : Heap), Evo σ h σ' h' → ∀ b o, h.get? b = some o → σ b = none → σ' b = none := fun σ' h h' e b o q n => by
    cases z : σ' b with
    | none => rfl
    | some o2 =>
      rcases e.dom b o2 z with ⟨o', e'⟩ | e'
      · rw [n] at e'; cases e'
      · rw [q] at e'; cases e'
  refine codeAny_of_tree ?_
  show wpAny C.M _ ((compTurn (.ListComp elt [⟨.Name x px, iter, ifs, 0⟩] scope pos) 0 it (.ref acc) env).onRaise (fun x => do noteFrame x env; theTreesLotGoes x)) _ _ s
  rw [show A.under (.compLoop (.ListComp elt [⟨.Name x px, iter, ifs, 0⟩] scope pos) 0 it (.ref acc) env) = A from Around.under_of_weight (by rfl)]
  refine wpAny_noted ?_
  rw [compTurn_list]
  refine wpAny_bind (wpAny_standAt (wpAny_bind ?_))
  cases hxk : xs[k]? with
  | none =>
    have hd : xs.drop k = [] := List.drop_eq_nil_of_le (List.getElem?_eq_none_iff.mp hxk)
    rw [hd] at hL
    refine W.done k σ s _ _ S hok hJ hxk no fun h' tk kp => ?_
    refine wpAny_pure ?_
    have S' : St C σ { s with heap := h', toks := tk } := S.ow kp nt no frb
    obtain ⟨m', hm', _⟩ := (F.ow kp nt noo).loc
    exact hR out σ _ items hL S' (e0.ow kp fr) (pl.at fun o e => kp _ _ nac e) (rl.mono (tk_ow kp nt)) na ⟨m', hm'⟩ F.locs
  | some y =>
    obtain ⟨hk, rfl⟩ := List.getElem?_eq_some_iff.mp hxk
    rw [List.drop_eq_getElem_cons hk] at hL
    refine W.more k σ s _ _ _ S hok hJ hxk no fun v h' tk rv kp nt' go => ?_
    refine wpAny_bind (go _ _ fun h'' tk' J' kp' => ?_)
    have kp2 : ∀ b o, ¬ ow b → s.heap.get? b = some o → h''.get? b = some o := fun b o q e => kp' b o q (kp b o q e)
    have S2 : St C σ { s with heap := h'', toks := tk' } := S.ow kp2 nt no frb
    have F2 : Fm C σ h'' env ρ := F.ow kp2 nt noo
    have rv2 : VR h'' v xs[k] := rv.mono (tk_ow kp' nt')
    have e2 : Evo σ0 h0 σ h'' := e0.ow kp2 fr
    have pl2 : h''.PlainList acc items := pl.at fun o e => kp2 _ _ nac e
    have rl2 : VRs h'' items.toList out := rl.mono (tk_ow kp2 nt)
    obtain ⟨m0, hm0, fm0⟩ := F2.loc
    refine wpAny_bind (wpAny_assign_Name (wpAny_storeName_local (s := { s with heap := h'', toks := tk' }) hx hm0 (fun h3 hn3 hs3 => ?_) (by rw [F2.fn]; rfl)))
    obtain ⟨S3, F3, e3⟩ := Fm.storeLocal (h := h'') (t := tk' + 1) (s := { s with heap := h'', toks := tk' }) S2 F2 hx hm0 fm0 hn3 hs3 rv2 hxc
    have e03 : Evo σ0 h0 σ h3 := e2.ow (ow := fun b => b = env.locals) (fun b o q e => (hs3.2 b q).trans e) (fun b q => q ▸ frl)
    have J3 : J (k + 1) h3 := W.frame _ _ _ J' e3.tup fun b o q e => (hs3.2 b fun z => nol (z ▸ q)).trans e
    have pl3 : h3.PlainList acc items := pl2.at fun o e => (hs3.2 _ nal).trans e
    have rl3 : VRs h3 items.toList out := rl2.mono e3.tup
    have nx : ∀ (s4 : Shared) (σ4 : Store) (out' : List V) (items' : Array Value), ok σ4 → CmpL C A env x ifs elt ok ρ R (xs.drop (k + 1)) out' σ4 → St C σ4 s4 → Fm C σ4 s4.heap env (ρ.put x xs[k]) → Evo σ0 h0 σ4 s4.heap → J (k + 1) s4.heap →
        (∀ b, ow b → σ4 b = none) → s4.heap.PlainList acc items' → VRs s4.heap items'.toList out' → σ4 acc = none →
        codeAny C.M A (.compLoop (.ListComp elt [⟨.Name x px, iter, ifs, 0⟩] scope pos) 0 it (.ref acc) env) RR s4 := fun s4 σ4 out' items' hok4 hL4 S4 F4 e4 J4 no4 pl4 rl4 na4 =>
      ih (xs.length - (k + 1)) (by (first | lia | omega)) (k + 1) out' σ4 s4 items' rfl hok4 hL4 S4 (F4.less fun z u hz => by
        rw [Rho.get_put, if_neg (fun q => by rw [q, hxr] at hz; cases hz)]; exact hz) e4 J4 no4 pl4 rl4 na4
    refine wpAny_bind (wpAny_mono (Ifs.run hL S3 F3) ?_ fun _ _ z => z.elim)
    rintro b s4 ⟨σ4, q4, S4, e4⟩
    have no4 : ∀ b, ow b → σ4 b = none := fun b q => by
      obtain ⟨o', eo⟩ := W.there _ _ b J3 q
      exact dn σ4 _ _ e4 b o' eo (no b q)
    have na4 : σ4 acc = none := by obtain ⟨n, eo⟩ := pl3; exact dn σ4 _ _ e4 acc _ eo na
    have J4 : J (k + 1) s4.heap := W.frame _ _ _ J3 e4.tup fun b o q e => (e4.keep b o e (no b q)).exact (W.notD _ _ b o J3 q e)
    have pl4 : s4.heap.PlainList acc items := plain_kept pl3 fun o e => e4.keep _ _ e na
    have rl4 := rl3.mono e4.tup
    have F4 := F3.evo e4
    cases b with
    | false =>
      simp only [Bool.false_eq_true, if_false] at q4 ⊢
      exact wpAny_pure ⟨rfl, nx s4 σ4 out items q4.1 q4.2 S4 F4 (e03.trans e4) J4 no4 pl4 rl4 na4⟩
    | true =>
      simp only [if_true] at q4 ⊢
      refine wpAny_bind (wpAny_bind (wpAny_mono (q4 s4 S4 F4) ?_ fun _ _ z => z.elim))
      rintro u s5 ⟨z, σ5, ⟨hz, hok5, q5⟩, r5, S5, e5⟩
      have dn5 : ∀ b o, s4.heap.get? b = some o → σ4 b = none → σ5 b = none := fun b o q n => by
        cases z : σ5 b with
        | none => rfl
        | some o2 =>
          rcases e5.dom b o2 z with ⟨o', e'⟩ | e'
          · rw [n] at e'; cases e'
          · rw [q] at e'; cases e'
      have no5 : ∀ b, ow b → σ5 b = none := fun b q => by
        obtain ⟨o', eo⟩ := W.there _ _ b J4 q
        exact dn5 b o' eo (no4 b q)
      have na5 : σ5 acc = none := by obtain ⟨n, eo⟩ := pl4; exact dn5 acc _ eo na4
      have J5 : J (k + 1) s5.heap := W.frame _ _ _ J4 e5.tup fun b o q e => (e5.keep b o e (no4 b q)).exact (W.notD _ _ b o J4 q e)
      have pl5 : s5.heap.PlainList acc items := plain_kept pl4 fun o e => e5.keep _ _ e na4
      have rl5 := rl4.mono e5.tup
      have F5 := F4.evo e5
      refine wpAny_bind (wpAny_list_append_plain pl5 (fun h6 pl6 sb6 => ?_) (by have := rl5.length; simp only [Array.length_toList] at this; (first | lia | omega)))
      have nt6 : ∀ b o, b = acc → s5.heap.get? b = some o → ¬ Imm o := fun b o q => by
        subst q
        obtain ⟨n, eo⟩ := pl5
        intro z; rw [eo] at z; cases z; exact Imm.not (by simp) (by simp) (by simp)
      have kp6 : ∀ b o, ¬ b = acc → s5.heap.get? b = some o → h6.get? b = some o := fun b o q e => (sb6.2 b q).trans e
      have S6 : St C σ5 { s5 with heap := h6, toks := s5.toks } := S5.ow (ow := fun b => b = acc) kp6 nt6 (fun b q => q ▸ na5) (fun b q => q ▸ frba)
      have F6 : Fm C σ5 h6 env (ρ.put x xs[k]) := F5.ow (ow := fun b => b = acc) kp6 nt6 (fun b q => q ▸ nao)
      have tk6 : TupKeep s5.heap h6 := tk_ow (ow := fun b => b = acc) kp6 nt6
      refine wpAny_pure (wpAny_pure ⟨rfl, nx _ σ5 (out ++ [z]) (items.push u) hok5 q5 S6 F6 (((e03.trans e4).trans e5).ow (ow := fun b => b = acc) kp6 (fun b q => q ▸ fra)) ?_ no5 pl6 ?_ na5⟩)
      · exact W.frame _ _ _ J5 tk6 fun b o q e => kp6 b o (fun z => nac (z ▸ q)) e
      · simp only [Array.toList_push]
        exact (rl5.mono tk6).append (.cons (r5.mono tk6) .nil)
end

end Mine

set_option autoImplicit false
set_option linter.unusedVariables false
namespace Mine
open PySem PySem.W

section
variable {C : Cx} {A : Around} {env : Env} {ρ : Rho} {σ : Store} {X : XP} {s : Shared}

/-- what an iterator's making gives -/
def SrcP (C : Cx) (A : Around) (target : Expr) (σ : Store) (h : Heap) (Q : List V → (Store → Prop) → Store → Prop) (it : Value) (s2 : Shared) : Prop :=
  ∃ xs ok σ' ow J, Q xs ok σ' ∧ Itr C A target it ow J ok xs ∧ ok σ' ∧ St C σ' s2 ∧ Evo σ h σ' s2.heap ∧ (∀ b, ow b → h.get? b = none ∧ σ' b = none) ∧ J 0 s2.heap
def Src (C : Cx) (A : Around) (env : Env) (target iter : Expr) (ρ : Rho) (σ : Store) (Q : List V → (Store → Prop) → Store → Prop) (X : XP) : Prop :=
  ∀ s, St C σ s → Fm C σ s.heap env ρ → wpAny C.M A (eval iter env) (fun x s1 => wpAny C.M A (pyIter x) (SrcP C A target σ s.heap Q) X s1) X s

theorem Fm.own_there {h : Heap} (F : Fm C σ h env ρ) {b : Addr} (w : Own env b) : ∃ o, h.get? b = some o := by
  rcases w with rfl | ⟨x, e⟩
  · obtain ⟨m, ⟨o, _, _, ho, _⟩, _⟩ := F.loc
    exact ⟨o, ho⟩
  · obtain ⟨ov, ⟨o, ho, _⟩, _⟩ := F.cell x b e
    exact ⟨o, ho⟩

theorem Ex.for {target iter : Expr} {body : List Stmt} {pos : Pos} {Q : FV → Rho → Store → Prop}
    (h : Src C A env target iter ρ σ (fun xs ok σ1 => ForL C A env target body ok Q xs ρ σ1) X)
    (hs : ∀ x, foldedSetIterable iter env x = pure x := by intro _; kernel_rfl) : Ex C A env (.For target iter body [] pos) ρ σ Q X := by
  intro s S F
  refine wpAny_For (wpAny_mono (h s S F) (fun x s1 h1 => wpAny_mono h1 ?_ fun _ _ z => z) fun _ _ z => z) hs
  rintro it s2 ⟨xs, ok, σ', ow, J, q, W, hok, S2, e2, fr, hJ⟩
  refine codeAny_mono (for_run (σ0 := σ) (h0 := s.heap) W (fun b w => (fr b w).1) (fun b w z => ?_) (fun b w => ?_) (fun b w => (fr b w).2) S2 (F.evo e2) (e2.evoF F.own) hJ hok q) ?_
  · obtain ⟨o, e⟩ := F.own_there z
    rw [(fr b w).1] at e; cases e
  · cases z : C.h₀.get? b with
    | none => rfl
    | some o => have := S.base _ _ z; rw [(fr b w).1] at this; cases this
  · rintro (e | f) s' z
    · exact z.elim
    · exact z

/- sources -/
/-- iterating over a value gives these items -/
def ItV (C : Cx) (A : Around) (target : Expr) (x : V) (σ : Store) (xs : List V) (ok : Store → Prop) : Prop :=
  ok σ ∧ ∀ s v (Q : Value → Shared → Prop) (X : XP), St C σ s → VR s.heap v x → (∀ it ow J h' tk, Itr C A target it ow J ok xs → (∀ b o, s.heap.get? b = some o → h'.get? b = some o) → (∀ b, ow b → s.heap.objs.size ≤ b) → J 0 h' →
    Q it { s with heap := h', toks := tk }) → wpAny C.M A (pyIter v) Q X s

theorem St.fresh' (S : St C σ s) {b : Addr} (hb : s.heap.objs.size ≤ b) : σ b = none := by
  cases q : σ b with
  | none => rfl
  | some o =>
    obtain ⟨y, hy, _⟩ := (S.rep _ _ q).isSome
    exact absurd (Heap.lt_size hy) (Nat.not_lt.mpr hb)
theorem get?_fresh' {h : Heap} {b : Addr} (hb : h.objs.size ≤ b) : h.get? b = none := by
  cases q : h.get? b with
  | none => rfl
  | some o => exact absurd (Heap.lt_size q) (Nat.not_lt.mpr hb)
theorem Evo.fresh {σ' : Store} {h h' : Heap} {b : Addr} (S : St C σ' s) (e : Evo σ h σ' s.heap) (hb : s.heap.objs.size ≤ b) : h.get? b = none := by
  cases q : h.get? b with
  | none => rfl
  | some o =>
    have f := get?_fresh' hb
    cases z : σ b with
    | none =>
      obtain ⟨o', z'⟩ := (e.keep _ _ q z).got
      rw [z'] at f; cases f
    | some o' =>
      obtain ⟨o'', e''⟩ := e.mono _ _ z
      rw [S.fresh' hb] at e''; cases e''

theorem Src.of {target iter : Expr} {Q : List V → (Store → Prop) → Store → Prop} (h : Ev C A env iter ρ σ (fun x σ1 => ∃ xs ok, ItV C A target x σ1 xs ok ∧ Q xs ok σ1) X) : Src C A env target iter ρ σ Q X := by
  intro s S F
  refine wpAny_mono (h s S F) ?_ fun _ _ z => z
  rintro v s1 ⟨x, σ1, ⟨xs, ok, ⟨hok, hi⟩, q⟩, r1, S1, e1⟩
  refine hi s1 v _ _ S1 r1 fun it ow J h' tk W kp fr hJ => ?_
  exact ⟨xs, ok, σ1, ow, J, q, W, hok, S1.ext kp, e1.trans (.ext kp), fun b w => ⟨Evo.fresh (h' := s1.heap) S1 e1 (fr b w), S1.fresh' (fr b w)⟩, hJ⟩

theorem ItV.list {target : Expr} {l : Addr} {xs : List V} (hh : A.handled = none) (hl : LstAt C σ l xs) : ItV C A target (.ref l) σ xs (fun σ => LstAt C σ l xs) := by
  refine ⟨hl, fun s v Q X S r hQ => ?_⟩
  cases r
  obtain ⟨items, pl, hr⟩ := hl.raw S
  refine wpAny_pyIter_list pl ?_
  have hlt : l < s.heap.objs.size := by obtain ⟨o, e, _⟩ := pl; exact Heap.lt_size e
  exact hQ _ _ _ _ s.toks (Itr.list hh (Nat.ne_of_gt hlt)) (fun b o e => Heap.get?_push_of_some _ e) (fun b w => w ▸ Nat.le_refl _) ⟨_, Heap.get?_push_size _ rfl, rfl, rfl⟩

theorem Itr.tup {target : Expr} {it t : Addr} {items : Array Value} {xs : List V} {n : Nat} (hh : A.handled = none) (hne : it ≠ t) :
    Itr C A target (.ref it) (fun b => b = it) (fun k h => h.IsTupleIter it t k ∧ h.get? t = some (tupObj items n) ∧ VRs h items.toList xs) (fun _ => True) xs where
  frame := fun k h h' ⟨⟨o, e, r⟩, a, b⟩ tk kp => ⟨⟨o, kp it o rfl e, r⟩, tk _ _ (.tup _ _) a, b.mono tk⟩
  notTup := fun k h b o' ⟨⟨o, e, c, _⟩, _⟩ q z => by subst q; rw [e] at z; cases z; exact Imm.not (by rw [c]; simp) (by rw [c]; simp) (by rw [c]; simp)
  notD := fun k h b o' ⟨⟨o, e, c, d⟩, _⟩ q z es n w => by subst q; rw [e] at z; cases z; rw [d] at w; cases w
  there := fun k h b ⟨⟨o, e, _⟩, _⟩ q => by subst q; exact ⟨o, e⟩
  more := fun k σ s x Q X S hok ⟨hJ, ha, hr⟩ hx no hQ => by
    obtain ⟨u, hu, ru⟩ := hr.get hx
    have it' : s.heap.IsTuple t items := ⟨_, ha, rfl, n, rfl⟩
    refine wpAny_pyNext_tuple_item hJ it' (by simpa using hu) fun h' J' sb => ?_
    have kp : ∀ b o, ¬ b = it → s.heap.get? b = some o → h'.get? b = some o := fun b o q e => (sb.2 b q).trans e
    have tk : TupKeep s.heap h' := tk_ow (ow := fun b => b = it) kp fun b o' q => by
      subst q
      obtain ⟨o, e, c, _⟩ := hJ
      intro z; rw [e] at z; cases z; exact Imm.not (by rw [c]; simp) (by rw [c]; simp) (by rw [c]; simp)
    refine hQ u h' s.toks (ru.mono tk) kp (fun b o' q z => ?_) (fun Q' X' hq => by
      obtain ⟨o, e, c, _⟩ := id J'
      exact letGo_plain (s := { s with heap := h' }) e c (by decide) (hq h' s.toks ⟨J', tk _ _ (.tup _ _) ha, hr.mono tk⟩ fun _ _ _ e => e))
    subst q
    obtain ⟨o, e, c, _⟩ := J'
    rw [e] at z; cases z; exact Imm.not (by rw [c]; simp) (by rw [c]; simp) (by rw [c]; simp)
  self := fun k s Q X hJ hq => wpAny_pyIter_tupleiter hJ.1 hq
  done := fun k σ s Q X S hok ⟨hJ, ha, hr⟩ hx no hQ => by
    have hn : items[k]? = none := by
      have h1 := List.getElem?_eq_none_iff.mp hx
      have h2 := hr.length
      simp only [Array.length_toList] at h2
      exact Array.getElem?_eq_none_iff.mpr (by (first | lia | omega))
    exact wpAny_pyNext_tuple_end hh hJ ⟨_, ha, rfl, n, rfl⟩ hn fun h' kp => hQ h' s.toks fun b o q e => kp b o q e
theorem ItV.tup {target : Expr} {xs : List V} (hh : A.handled = none) : ItV C A target (.tup xs) σ xs (fun _ => True) := by
  refine ⟨trivial, fun s v Q X S r hQ => ?_⟩
  cases r with
  | @tup a items n _ ha hr =>
    refine wpAny_pyIter_tuple (items := items) ⟨_, ha, rfl, n, rfl⟩ ?_
    have hlt : a < s.heap.objs.size := Heap.lt_size ha
    exact hQ _ _ _ _ s.toks (Itr.tup (t := a) (items := items) (n := n) hh (Nat.ne_of_gt hlt)) (fun b o e => Heap.get?_push_of_some _ e) (fun b w => w ▸ Nat.le_refl _) ⟨⟨_, Heap.get?_push_size _ rfl, rfl, rfl⟩, Heap.get?_push_of_some _ ha, hr.push⟩

def irange (a b : Int) : List V := (List.range (b - a).toNat).map fun (i : Nat) => V.int (a + (i : Int))
theorem Itr.rng {target : Expr} {it : Addr} {a b : Int} (hh : A.handled = none) :
    Itr C A target (.ref it) (fun b => b = it) (fun k h => IsRangeIter h it (a + k) (((b - a).toNat : Int) - k) 1) (fun _ => True) (irange a b) where
  frame := fun k h h' e _ kp => kp it _ rfl e
  notTup := fun k h b o' e q z => by subst q; rw [e] at z; cases z; exact Imm.not (by simp) (by simp) (by simp)
  notD := fun k h b o' e q z es n w => by subst q; rw [e] at z; cases z; cases w
  there := fun k h b e q => by subst q; exact ⟨_, e⟩
  more := fun k σ s x Q X S hok hJ hx no hQ => by
    obtain ⟨hk, rfl⟩ := List.getElem?_eq_some_iff.mp hx
    have hk' : k < (b - a).toNat := by simpa [irange] using hk
    refine wpAny_pyNext_range_item hJ (by (first | lia | omega)) fun h' J' sb => ?_
    refine hQ _ h' (s.toks + 1) ?_ (fun b o q e => (sb.2 b q).trans e) (fun b o' q z => ?_) (fun Q' X' hq => by
      exact letGo_plain (s := { s with heap := h', toks := s.toks + 1 }) J' rfl (by decide) (hq h' (s.toks + 1) (by
        have e1 : a + (k : Int) + 1 = a + ((k + 1 : Nat) : Int) := by (first | lia | omega)
        have e2 : ((b - a).toNat : Int) - k - 1 = ((b - a).toNat : Int) - ((k + 1 : Nat) : Int) := by (first | lia | omega)
        rw [e1, e2] at J'; exact J') fun _ _ _ e => e))
    · simp only [irange, List.getElem_map, List.getElem_range]; exact .int _ _
    · subst q; rw [J'] at z; cases z; exact Imm.not (by simp) (by simp) (by simp)
  self := fun k s Q X hJ hq => wpAny_pyIter_rangeiter hJ hq
  done := fun k σ s Q X S hok hJ hx no hQ => by
    have h1 := List.getElem?_eq_none_iff.mp hx
    simp only [irange, List.length_map, List.length_range] at h1
    exact wpAny_pyNext_range_end hh hJ (by (first | lia | omega)) fun h' kp => hQ h' s.toks fun b o q e => kp b o q e
theorem ItV.rng {target : Expr} {a b : Int} (hh : A.handled = none) (ha : -(2 ^ 62) ≤ a) (ha' : a < 2 ^ 62) (hb : -(2 ^ 62) ≤ b) (hb' : b < 2 ^ 62) : ItV C A target (.rng a b) σ (irange a b) (fun _ => True) := by
  refine ⟨trivial, fun s v Q X S r hQ => ?_⟩
  cases r with
  | rng hr =>
    refine wpAny_pyIter_range hr (small_one ha ha' hb hb') ?_
    refine hQ _ _ _ _ s.toks (Itr.rng (a := a) (b := b) hh) (fun b o e => Heap.get?_push_of_some _ e) (fun b w => w ▸ Nat.le_refl _) ?_
    have e2 : Builtin.Range.rangeSize a b 1 = ((b - a).toNat : Int) := by rw [rangeSize_one]; split <;> (first | lia | omega)
    rw [e2]
    simpa using Heap.get?_push_size s.heap (o := { cls := .type "range_iterator", data := .fields #[rawInt a, rawInt ((b - a).toNat : Int), rawInt 1] }) rfl
end

end Mine

set_option autoImplicit false
set_option linter.unusedVariables false
namespace Mine
open PySem PySem.W

/-- the cells that a comprehension takes along -/
def clOf (cells : List (Str × Addr)) : List (Str × NameKind) → List (Str × Addr) → List (Str × Addr)
  | [], acc => acc
  | (n, k) :: r, acc => if k == .free then clOf cells r ((n, (cells.lookup n).getD 0) :: acc) else clOf cells r acc

theorem closure_go {env : Env} : ∀ (names : List (Str × NameKind)) (acc : List (Str × Addr)), (names.all fun p => p.2 != .free || (env.cells.lookup p.1).isSome) = true →
    (forIn names acc fun (x : Str × NameKind) (r : List (Str × Addr)) => (if x.2 == NameKind.free then (do let c ← cellOf env x.1; pure (ForInStep.yield ((x.1, c) :: r))) else pure (ForInStep.yield r) : Sem (ForInStep (List (Str × Addr))))) = pure (clOf env.cells names acc)
  | [], acc, _ => rfl
  | (n, k) :: r, acc, h => by
    simp only [List.all_cons, Bool.and_eq_true] at h
    rw [List.forIn_cons]
    unfold clOf
    by_cases q : (k == .free) = true
    · have hk : k = .free := by cases k <;> first | rfl | cases q
      subst hk
      have h1 : (env.cells.lookup n).isSome = true := by simpa using h.1
      obtain ⟨c, hc⟩ := Option.isSome_iff_exists.mp h1
      have e : cellOf env n = pure c := by unfold cellOf; rw [hc]
      simp only [q, if_true, e, pure_bind, hc, Option.getD_some]
      exact closure_go r _ h.2
    · simp only [q, if_false, pure_bind]
      exact closure_go r _ h.2
theorem closureFor_mine {env : Env} {scope : Scope} (h : (scope.names.all fun p => p.2 != .free || (env.cells.lookup p.1).isSome) = true) : closureFor scope env = pure (clOf env.cells scope.names []) := by
  unfold closureFor
  have := closure_go (env := env) scope.names [] h
  simp only [bind_pure]
  exact this

theorem clOf_mem {cells : List (Str × Addr)} : ∀ {names : List (Str × NameKind)} {acc : List (Str × Addr)} {x : Str} {c : Addr}, (x, c) ∈ clOf cells names acc → (x, c) ∈ acc ∨ ((x, NameKind.free) ∈ names ∧ c = (cells.lookup x).getD 0)
  | [], _, _, _, h => .inl h
  | (n, k) :: r, acc, x, c, h => by
    unfold clOf at h
    split at h
    · rename_i q
      have hk : k = .free := by cases k <;> first | rfl | cases q
      subst hk
      rcases clOf_mem h with z | ⟨z, e⟩
      · rcases List.mem_cons.mp z with z | z
        · cases z; exact .inr ⟨.head _, rfl⟩
        · exact .inl z
      · exact .inr ⟨.tail _ z, e⟩
    · rcases clOf_mem h with z | ⟨z, e⟩
      · exact .inl z
      · exact .inr ⟨.tail _ z, e⟩

/-- the names that a comprehension takes along, with their values -/
inductive Capt (ρ : Rho) : List (Str × NameKind) → Rho → Prop
  | nil : Capt ρ [] []
  | skip {n : Str} {k : NameKind} {r : List (Str × NameKind)} {ρc : Rho} : k ≠ .free → Capt ρ r ρc → Capt ρ ((n, k) :: r) ρc
  | take {n : Str} {v : V} {r : List (Str × NameKind)} {ρc : Rho} : ρ.get n = some v → Capt ρ r ρc → Capt ρ ((n, .free) :: r) ((n, v) :: ρc)
theorem Capt.get {ρ : Rho} {x : Str} {v : V} {names : List (Str × NameKind)} {ρc : Rho} (z : Capt ρ names ρc) : ρc.get x = some v → ρ.get x = some v ∧ (x, NameKind.free) ∈ names := by
  induction z with
  | nil => intro h; cases h
  | skip _ _ ih => exact fun h => ⟨(ih h).1, .tail _ (ih h).2⟩
  | @take n u _ ρc e c ih =>
    intro h
    have h' : (if x = n then some u else Rho.get ρc x) = some v := h
    by_cases q : x = n
    · subst q; rw [if_pos rfl] at h'; cases h'; exact ⟨e, .head _⟩
    · rw [if_neg q] at h'
      exact ⟨(ih h').1, .tail _ (ih h').2⟩

def compOk (scope : Scope) : Bool := scope.names.all fun p => p.2 != .cell && (p.2 != .free || scope.names.lookup p.1 == some .free) && (p.2 != .local || scope.names.lookup p.1 == some .local)

theorem lookup_map_kind {g : Str → NameKind → NameKind} {x : Str} : ∀ (names : List (Str × NameKind)), (names.map fun (n, k) => (n, g n k)).lookup x = (names.lookup x).map (g x)
  | [] => rfl
  | (n, k) :: r => by
    simp only [List.map_cons, List.lookup_cons]
    cases q : x == n with
    | true => rw [beq_iff_eq.mp q]; rfl
    | false => exact lookup_map_kind r
theorem relabel_lookup {scope : Scope} {env : Env} {x : Str} : (relabel scope env).names.lookup x = (scope.names.lookup x).map fun k => if (k == .free && env.scope.kind == .function && env.kindOf x == some .cell) then .cell else k := by
  have e : (relabel scope env).names = scope.names.map fun (n, k) => (n, (fun (n : Str) (k : NameKind) => if (k == .free && env.scope.kind == .function && env.kindOf n == some .cell) then NameKind.cell else k) n k) := by
    unfold relabel
    refine List.map_congr_left fun p _ => ?_
    obtain ⟨n, k⟩ := p
    dsimp only
    split <;> rfl
  rw [e]
  exact lookup_map_kind (g := fun n k => if (k == .free && env.scope.kind == .function && env.kindOf n == some .cell) then NameKind.cell else k) scope.names

section
variable {C : Cx} {A : Around} {env : Env} {ρ : Rho} {σ : Store} {X : XP} {s : Shared}

theorem St.adopt {a : Addr} {o : O} {σ0 : Store} {h0 : Heap} (S : St C σ s) (r : Rep C s.heap a o) (hn : C.n₀ ≤ a) (e : Evo σ0 h0 σ s.heap) (hf : h0.get? a = none) : St C (σ.upd a o) s ∧ Evo σ0 h0 (σ.upd a o) s.heap := by
  refine ⟨⟨S.base, fun b x hx => ?_, fun b x hx => ?_, S.gens, S.os⟩, e.keep, fun b x hx => ?_, fun b x hx => ?_, e.tup⟩
  · by_cases q : b = a
    · subst q; rw [Store.upd_self] at hx; cases hx; exact r
    · rw [Store.upd_ne _ _ q] at hx; exact S.rep b x hx
  · by_cases q : b = a
    · subst q; exact ⟨S.baseFresh hn, .inl hn⟩
    · rw [Store.upd_ne _ _ q] at hx; exact S.above b x hx
  · by_cases q : b = a
    · subst q; exact .inr hf
    · rw [Store.upd_ne _ _ q] at hx; exact e.dom b x hx
  · obtain ⟨o', h'⟩ := e.mono b x hx
    by_cases q : b = a
    · subst q; exact ⟨_, Store.upd_self ..⟩
    · exact ⟨o', by rw [Store.upd_ne _ _ q]; exact h'⟩

/-- a comprehension, whatever is done with its list -/
theorem comp_run {x : Str} {px pos : Pos} {elt iter : Expr} {ifs : List Expr} {scope : Scope} {ρc : Rho} {use : Option (Value → Sem Unit)} {Qr : Value → Shared → Prop} {R : List V → Store → Prop}
    (hfree : (scope.names.all fun p => p.2 != .free || (env.cells.lookup p.1).isSome) = true) (hck : compOk scope = true) (hk : scope.kind = .function) (hx : scope.names.lookup x = some .local) (cap : Capt ρ scope.names ρc)
    (hs : ∀ x, foldedSetIterable iter env x = pure x) (S : St C σ s) (F : Fm C σ s.heap env ρ)
    (h : Src C A env (.Name x px) iter ρ σ (fun xs ok σ1 => ∀ L, CmpL C A (compEnvC scope (clOf env.cells scope.names []) L env) x ifs elt ok ρc R xs [] σ1) X)
    (fin : ∀ acc L σ2 s2 out items, R out σ2 → St C σ2 s2 → Evo σ s.heap σ2 s2.heap → s2.heap.PlainList acc items → VRs s2.heap items.toList out → σ2 acc = none → (∃ m, s2.heap.Ns L m) → σ2 L = none → C.n₀ ≤ acc → C.n₀ ≤ L → acc ≠ L → s.heap.get? acc = none → s.heap.get? L = none →
      compPost C.M A X use Qr (.ref acc) L (.ok .next) s2) :
    wpAny C.M A (comprehension (.ListComp elt [⟨.Name x px, iter, ifs, 0⟩] scope pos) scope env (firstIterPos [⟨.Name x px, iter, ifs, 0⟩] pos) (newList []) false (eval iter env) use) Qr X s := by
  have names_of : ∀ p ∈ scope.names, p.2 ≠ .cell ∧ (p.2 = .free → scope.names.lookup p.1 = some .free) ∧ (p.2 = .local → scope.names.lookup p.1 = some .local) := fun p hp => by
    have := List.all_eq_true.mp hck p hp
    simp only [Bool.and_eq_true, bne_iff_ne, ne_eq, Bool.or_eq_true, beq_iff_eq] at this
    refine ⟨this.1.1, fun e => ?_, fun e => ?_⟩
    · rcases this.1.2 with z | z
      · exact absurd e z
      · exact z
    · rcases this.2 with z | z
      · exact absurd e z
      · exact z
  refine wpAny_comprehension_free (cl := clOf env.cells scope.names []) rfl hs (closureFor_mine hfree) hk (fun p hp e => (names_of p hp).2.2 e) ?_
  refine wpAny_mono (h s S F) (fun v s1 h1 => wpAny_mono h1 ?_ fun _ _ z => z) fun _ _ z => z
  rintro it s2 ⟨xs, ok, σ', ow, J, q, W, hok, S2, e2, fr, hJ⟩
  refine wpAny_newObj_type (wpAny_newFunctionEnv (fun p hp => (names_of p hp).1) (by intro y hy; simp at hy) (fun h₁ hns₁ hsb₁ => ?_) hk)
  dsimp only at hns₁ hsb₁ ⊢
  generalize hH2 : s2.heap.push { cls := .type "list", dict := none, data := .seq ([] : List Value).toArray } = H2 at hns₁ hsb₁ ⊢
  have hC : H2.objs.size = s2.heap.objs.size + 1 := by rw [← hH2, push_size]
  have hDC : s2.heap.objs.size ≠ H2.objs.size := by rw [hC]; exact Nat.ne_of_lt (Nat.lt_succ_self _)
  have old : ∀ b o, s2.heap.get? b = some o → h₁.get? b = some o := fun b o e =>
    hsb₁.extBut b o (by rw [hC]; exact Nat.ne_of_lt (Nat.lt_succ_of_lt (Heap.lt_size e))) (Heap.get?_push_of_some _ (hH2 ▸ Heap.get?_push_of_some _ e))
  have hacc : h₁.PlainList s2.heap.objs.size #[] := ⟨_, hsb₁.extBut _ _ hDC (Heap.get?_push_of_some _ (hH2 ▸ Heap.get?_push_size _ rfl))⟩
  have F2 := F.evo e2
  have e12 : Evo σ' s2.heap σ' h₁ := .ext old
  have fresh2 : ∀ b, s2.heap.objs.size ≤ b → s.heap.get? b = none := fun b hb => Evo.fresh (h' := s2.heap) S2 e2 hb
  have hLle : s2.heap.objs.size ≤ H2.objs.size := by rw [hC]; exact Nat.le_succ _
  have cl_of : ∀ y c, (clOf env.cells scope.names []).lookup y = some c → env.cells.lookup y = some c ∧ scope.names.lookup y = some .free := fun y c hy => by
    rcases clOf_mem (mem_of_lookup hy) with z | ⟨z, e⟩
    · cases z
    · have h1 := List.all_eq_true.mp hfree _ z
      have h2 : (env.cells.lookup y).isSome = true := by simpa using h1
      obtain ⟨c', hc'⟩ := Option.isSome_iff_exists.mp h2
      rw [hc'] at e
      exact ⟨by rw [hc', e]; rfl, (names_of _ z).2.1 rfl⟩
  have S3 : St C σ' { s2 with heap := h₁, toks := s2.toks } := S2.ext old
  have F3 : Fm C σ' h₁ (compEnvC scope (clOf env.cells scope.names []) H2.objs.size env) ρc := by
    refine ⟨by show (relabel scope env).kind = _; exact hk, ⟨_, hns₁, fun y v hy hv => ?_⟩, S2.fresh' hLle, Nat.le_trans S2.size hLle, fun y c hy => ?_, fun y c hy => ?_, fun y z c hy hz => ?_⟩
    · exfalso
      obtain ⟨_, m⟩ := cap.get hv
      have h1 := (names_of _ m).2.1 rfl
      have h2 : (relabel scope env).names.lookup y = some .local := hy
      rw [relabel_lookup, h1] at h2
      simp only [Option.map_some, Option.some.injEq] at h2
      split at h2 <;> cases h2
    · obtain ⟨h1, _⟩ := cl_of y c hy
      obtain ⟨ov, a, b⟩ := (F2.evo e12).cell y c h1
      exact ⟨ov, a, fun v hv => b v (cap.get hv).1⟩
    · obtain ⟨h1, _⟩ := cl_of y c hy
      obtain ⟨n1, n2, n3⟩ := F2.ncell y c h1
      refine ⟨n1, ?_, n3⟩
      obtain ⟨ov, a, b⟩ := F2.cell y c h1
      exact Nat.ne_of_lt (Nat.lt_of_lt_of_le a.lt hLle)
    · exact F.apart y z c (cl_of y c hy).1 (cl_of z c hz).1
  have ownc : ∀ b, Own (compEnvC scope (clOf env.cells scope.names []) H2.objs.size env) b → b = H2.objs.size ∨ Own env b := by
    rintro b (z | ⟨y, z⟩)
    · exact .inl z
    · exact .inr (.inr ⟨y, (cl_of y b z).1⟩)
  have own_lt : ∀ b, Own env b → b < s2.heap.objs.size := fun b w => by
    obtain ⟨o, e⟩ := F2.own_there w
    exact Heap.lt_size e
  have owlt : ∀ b, ow b → b < s2.heap.objs.size := fun b w => by
    obtain ⟨o, e⟩ := W.there 0 _ b hJ w
    exact Heap.lt_size e
  have loop : ∀ s₃ : Shared, s₃ = { s2 with heap := h₁, toks := s2.toks + ([] : List (Str × Value)).length } →
      codeAny C.M A (.compLoop (.ListComp elt [⟨.Name x px, iter, ifs, 0⟩] scope pos) 0 it (.ref s2.heap.objs.size) (compEnvC scope (clOf env.cells scope.names []) H2.objs.size env))
        (compPost C.M A X use Qr (.ref s2.heap.objs.size) H2.objs.size) s₃ := by
    rintro s₃ rfl
    refine comp_turns (σ0 := σ) (h0 := s.heap) (R := R) W ?_ ?_ ?_ (fun b w => (fr b w).1) (fresh2 _ (Nat.le_refl _)) (fresh2 _ hLle) (fun b w => ?_) ?_ (fun w => Nat.lt_irrefl _ (owlt _ w)) hDC
      (fun w => absurd (owlt _ w) (Nat.not_lt.mpr hLle)) (fun b w z => ?_) (fun z => ?_) ?_ _ 0 [] σ' _ #[] rfl hok (by simpa using q H2.objs.size) S3 F3 (e2.trans e12) (W.frame _ _ _ hJ e12.tup fun b o _ e => old b o e)
      (fun b w => (fr b w).2) hacc .nil (S2.fresh' (Nat.le_refl _))
    · exact lookup_relabel_local hx
    · cases z : (clOf env.cells scope.names []).lookup x with
      | none => exact z
      | some c => have := (cl_of x c z).2; rw [hx] at this; cases this
    · cases z : ρc.get x with
      | none => rfl
      | some v => have := (names_of _ (cap.get z).2).2.1 rfl; rw [hx] at this; cases this
    · cases z : C.h₀.get? b with
      | none => rfl
      | some o => have := S.base _ _ z; rw [(fr b w).1] at this; cases this
    · cases z : C.h₀.get? s2.heap.objs.size with
      | none => rfl
      | some o => have := S.base _ _ z; rw [fresh2 _ (Nat.le_refl _)] at this; cases this
    · rcases ownc b z with y | y
      · exact absurd (owlt _ w) (by rw [y]; exact Nat.not_lt.mpr hLle)
      · obtain ⟨o, e⟩ := F.own_there y
        rw [(fr b w).1] at e; cases e
    · rcases ownc _ z with y | y
      · exact hDC y
      · exact Nat.lt_irrefl _ (own_lt _ y)
    · intro out σ2 s4 items hR S4 e4 pl4 r4 na4 ns4 nl4
      exact fin _ _ σ2 s4 out items hR S4 e4 pl4 r4 na4 ns4 nl4 S2.size (Nat.le_trans S2.size hLle) hDC (fresh2 _ (Nat.le_refl _)) (fresh2 _ hLle)
  exact codeAny_compStart_list (loop _ rfl) (W.self 0 _ _ _ (W.frame _ _ _ hJ e12.tup fun b o _ e => old b o e) (loop _ rfl))

theorem Ev.comp {x : Str} {px pos : Pos} {elt iter : Expr} {ifs : List Expr} {scope : Scope} {ρc : Rho} {Q : V → Store → Prop}
    (hfree : (scope.names.all fun p => p.2 != .free || (env.cells.lookup p.1).isSome) = true) (hck : compOk scope = true) (hk : scope.kind = .function) (hx : scope.names.lookup x = some .local) (cap : Capt ρ scope.names ρc)
    (h : Src C A env (.Name x px) iter ρ σ (fun xs ok σ1 => ∀ L, CmpL C A (compEnvC scope (clOf env.cells scope.names []) L env) x ifs elt ok ρc (fun out σ2 => ∀ a, σ2 a = Option.none → Q (.ref a) (σ2.upd a (.list out))) xs [] σ1) X)
    (hs : ∀ x, foldedSetIterable iter env x = Pure.pure x := by intro _; kernel_rfl) : Ev C A env (.ListComp elt [⟨.Name x px, iter, ifs, 0⟩] scope pos) ρ σ Q X := by
  intro s S F
  rw [eval_ListComp]
  refine comp_run hfree hck hk hx cap hs S F h ?_
  intro acc L σ2 s2 out items q S2 e2 pl2 r2 na2 ⟨m, hm⟩ nl2 n1 n2 hne fa fl
  refine ⟨m, hm, fun h' sb => ?_⟩
  have kp : ∀ b o, ¬ b = L → s2.heap.get? b = some o → h'.get? b = some o := fun b o w e => (sb.2 b w).trans e
  have nt : ∀ b o, b = L → s2.heap.get? b = some o → ¬ Imm o := fun b o w z => by
    subst w
    obtain ⟨o', es, ep, ho, hd, _⟩ := hm
    rw [ho] at z; cases z; exact Imm.notDict hd
  have S3 : St C σ2 { s2 with heap := h', toks := s2.toks } := S2.ow (ow := fun b => b = L) kp nt (fun b w => w ▸ nl2) (fun b w => by
    subst w
    cases z : C.h₀.get? b with
    | none => rfl
    | some o => exact absurd (C.low _ _ z) (Nat.not_lt.mpr n2))
  have e3 : Evo σ s.heap σ2 h' := e2.ow (ow := fun b => b = L) kp (fun b w => w ▸ fl)
  obtain ⟨S4, e4⟩ := S3.adopt (a := acc) (o := .list out) ⟨items, pl2.at fun o e => kp _ _ hne e, r2.mono (tk_ow (ow := fun b => b = L) kp nt)⟩ n1 e3 fa
  exact ⟨.ref acc, _, q acc na2, .ref _, S4, e4⟩

/-- a comprehension stored into a name of the frame's own straight away -/
theorem Ex.assignComp {x y : Str} {px py pos spos : Pos} {elt iter : Expr} {ifs : List Expr} {scope : Scope} {ρc : Rho} {Q : FV → Rho → Store → Prop}
    (hfree : (scope.names.all fun p => p.2 != .free || (env.cells.lookup p.1).isSome) = true) (hck : compOk scope = true) (hk : scope.kind = .function) (hx : scope.names.lookup x = some .local) (cap : Capt ρ scope.names ρc)
    (hy : env.kindOf y = some .local) (hyc : env.cells.lookup y = none)
    (h : Src C A env (.Name x px) iter ρ σ (fun xs ok σ1 => ∀ L, CmpL C A (compEnvC scope (clOf env.cells scope.names []) L env) x ifs elt ok ρc (fun out σ2 => ∀ a, σ2 a = none → Q .next (ρ.put y (.ref a)) (σ2.upd a (.list out))) xs [] σ1) X)
    (hsw : swapsWith (.ListComp elt [⟨.Name x px, iter, ifs, 0⟩] scope pos) (some (.Name y py)) spos.line env = pure true := by kernel_rfl)
    (hs : ∀ x, foldedSetIterable iter env x = pure x := by intro _; kernel_rfl) : Ex C A env (.Assign [.Name y py] (.ListComp elt [⟨.Name x px, iter, ifs, 0⟩] scope pos) spos) ρ σ Q X := by
  intro s S F
  rw [exec_Assign_Name_used _ _ _ _ hsw]
  refine wpAny_bind (wpAny_standAt (wpAny_bind ?_))
  rw [arm_evalThenUse_ListComp]
  refine wpAny_bind ?_
  refine comp_run (Qr := fun _ s' => wpAny C.M A (pure PUnit.unit) (fun _ s' => wpAny C.M A (pure Flow.next) (SP C env σ s.heap Q) X s') X s') hfree hck hk hx cap hs S F h ?_
  intro acc L σ2 s2 out items q S2 e2 pl2 r2 na2 ⟨m, hm⟩ nl2 n1 n2 hne fa fl
  have F2 := F.evo e2
  obtain ⟨m2, hm2, f2⟩ := F2.loc
  have hLe : L ≠ env.locals := fun z => by
    obtain ⟨o, e⟩ := F.own_there (.inl rfl)
    rw [z, e] at fl; cases fl
  have hAe : acc ≠ env.locals := fun z => by
    obtain ⟨o, e⟩ := F.own_there (.inl rfl)
    rw [z, e] at fa; cases fa
  obtain ⟨S4, e4⟩ := S2.adopt (a := acc) (o := .list out) ⟨items, pl2, r2⟩ n1 e2 fa
  have F4 : Fm C (σ2.upd acc (.list out)) s2.heap env ρ := F.evo e4
  refine wpAny_assign_Name (wpAny_storeName_local hy hm2 (fun h3 hn3 hs3 => ?_) (by rw [F2.fn]; rfl))
  obtain ⟨S5, F5, e5⟩ := Fm.storeLocal (h := s2.heap) (t := s2.toks + 1) S4 F4 hy hm2 f2 hn3 hs3 (VR.ref acc) hyc
  have hm3 : h3.Ns L m := hm.sameBut hs3 hLe
  refine ⟨m, hm3, fun h' sb => ?_⟩
  have kp : ∀ b o, ¬ b = L → h3.get? b = some o → h'.get? b = some o := fun b o w e => (sb.2 b w).trans e
  have nt : ∀ b o, b = L → h3.get? b = some o → ¬ Imm o := fun b o w z => by
    subst w
    obtain ⟨o', es, ep, ho, hd, _⟩ := hm3
    rw [ho] at z; cases z; exact Imm.notDict hd
  have nl4 : (σ2.upd acc (.list out)) L = none := by rw [Store.upd_ne _ _ hne.symm]; exact nl2
  have S6 : St C (σ2.upd acc (.list out)) { s2 with heap := h', toks := s2.toks + 1 } := St.ow (s := { s2 with heap := h3, toks := s2.toks + 1 }) (ow := fun b => b = L) S5 kp nt (fun b w => w ▸ nl4) (fun b w => by
    subst w
    cases z : C.h₀.get? b with
    | none => rfl
    | some o => exact absurd (C.low _ _ z) (Nat.not_lt.mpr n2))
  refine wpAny_pure (wpAny_pure ⟨.next, _, _, q acc na2, .next, S6, F5.ow (ow := fun b => b = L) kp nt (fun b w z => ?_), ((e4.evoF F.own).trans e5).ow (ow := fun b => b = L) kp (fun b w => w ▸ fl)⟩)
  subst w
  obtain ⟨o, e⟩ := F.own_there z
  rw [e] at fl; cases fl
end

end Mine

set_option autoImplicit false
set_option linter.unusedVariables false
namespace Mine
open PySem PySem.W PySem.SeqAt

section
variable {C : Cx} {A : Around} {env : Env} {ρ : Rho} {σ : Store} {X : XP} {s : Shared}

mutual
/-- a value as plain data -/
inductive DR (C : Cx) (σ : Store) : V → PyData → Prop where
  | none : DR C σ .none .none
  | bool (b : Bool) : DR C σ (.bool b) (.bool b)
  | int (i : Int) : DR C σ (.int i) (.int i)
  | str (x : Str) : DR C σ (.str x) (.str x)
  | tup {xs : List V} {ds : List PyData} : DRs C σ xs ds → DR C σ (.tup xs) (.tuple ds)
  | list {l : Addr} {xs : List V} {ds : List PyData} : LstAt C σ l xs → DRs C σ xs ds → DR C σ (.ref l) (.list ds)
inductive DRs (C : Cx) (σ : Store) : List V → List PyData → Prop where
  | nil : DRs C σ [] []
  | cons {x : V} {xs : List V} {d : PyData} {ds : List PyData} : DR C σ x d → DRs C σ xs ds → DRs C σ (x :: xs) (d :: ds)
end

mutual
theorem DR.reads (S : St C σ s) {x : V} {d : PyData} {v : Value} (h : DR C σ x d) (r : VR s.heap v x) : ∃ as, Reads s.heap v d as := by
  cases h with
  | none => obtain rfl := r.noneI; exact ⟨_, .none⟩
  | bool b => obtain rfl := r.boolI; exact ⟨_, .bool b⟩
  | int i => obtain ⟨t, rfl⟩ := r.intI; exact ⟨_, .int i t⟩
  | str x => obtain ⟨t, rfl⟩ := r.strI; exact ⟨_, .str x t⟩
  | tup ds =>
    obtain ⟨a, items, n, rfl, e, r⟩ := r.tupI
    obtain ⟨as, h⟩ := DRs.reads S ds r
    exact ⟨_, .tuple e rfl rfl h⟩
  | list hl ds =>
    obtain rfl := r.refI
    obtain ⟨items, ⟨o, e, c, n, hd⟩, r⟩ := hl.raw S
    obtain ⟨as, h⟩ := DRs.reads S ds r
    exact ⟨_, .list e c hd h⟩
theorem DRs.reads (S : St C σ s) {xs : List V} {ds : List PyData} {vs : List Value} (h : DRs C σ xs ds) (r : VRs s.heap vs xs) : ∃ as, ReadsAll s.heap vs ds as := by
  cases h with
  | nil => obtain rfl := r.nilI; exact ⟨_, .nil⟩
  | cons a b =>
    obtain ⟨_, _, rfl, r, rs⟩ := r.consI
    obtain ⟨as, h⟩ := DR.reads S a r
    obtain ⟨bs, h'⟩ := DRs.reads S b rs
    exact ⟨_, .cons h h'⟩
end

theorem CmpWP.eq {x y : V} {d e : PyData} {Q : V → Store → Prop} (hx : DR C σ x d) (hy : DR C σ y e) (h1 : d.canLay0 = true) (h2 : e.canLay0 = true) (hu : A.units + min d.depth e.depth < cLine) (h : Q (.bool (PyData.eqv d e)) σ) :
    CmpWP C A .Eq x y σ Q X := by
  intro s a b S ra rb
  obtain ⟨as, r1⟩ := hx.reads S ra
  obtain ⟨bs, r2⟩ := hy.reads S rb
  exact eqOverData _ _ _ _ _ _ _ _ _ _ _ _ r1 r2 h1 h2 hu (EP.pure S h (.bool _))
theorem CmpWP.ne {x y : V} {d e : PyData} {Q : V → Store → Prop} (hx : DR C σ x d) (hy : DR C σ y e) (h1 : d.canLay0 = true) (h2 : e.canLay0 = true) (hu : A.units + min d.depth e.depth < cLine) (h : Q (.bool (!PyData.eqv d e)) σ) :
    CmpWP C A .NotEq x y σ Q X := by
  intro s a b S ra rb
  obtain ⟨as, r1⟩ := hx.reads S ra
  obtain ⟨bs, r2⟩ := hy.reads S rb
  exact neOverData _ _ _ _ _ _ _ _ _ _ _ _ r1 r2 h1 h2 hu (EP.pure S h (.bool _))
theorem CmpWP.inL {x : V} {l : Addr} {xs : List V} {d : PyData} {ds : List PyData} {Q : V → Store → Prop} (hl : LstAt C σ l xs) (hx : DR C σ x d) (hy : DRs C σ xs ds) (h1 : d.canLay0 = true) (h2 : PyData.canLayAll0 ds = true) (hu : A.units + 1 + min (PyData.depthAll ds) d.depth < cLine)
    (h : Q (.bool (ds.any fun y => PyData.eqv y d)) σ) : CmpWP C A .In x (.ref l) σ Q X := by
  intro s a b S ra rb
  obtain ⟨as, r1⟩ := hx.reads S ra
  obtain ⟨bs, r2⟩ := (DR.list hl hy).reads S rb
  exact in_list_reads r2 r1 h2 h1 hu (EP.pure S h (.bool _))
theorem CmpWP.notInL {x : V} {l : Addr} {xs : List V} {d : PyData} {ds : List PyData} {Q : V → Store → Prop} (hl : LstAt C σ l xs) (hx : DR C σ x d) (hy : DRs C σ xs ds) (h1 : d.canLay0 = true) (h2 : PyData.canLayAll0 ds = true) (hu : A.units + 1 + min (PyData.depthAll ds) d.depth < cLine)
    (h : Q (.bool (!ds.any fun y => PyData.eqv y d)) σ) : CmpWP C A .NotIn x (.ref l) σ Q X := by
  intro s a b S ra rb
  obtain ⟨as, r1⟩ := hx.reads S ra
  obtain ⟨bs, r2⟩ := (DR.list hl hy).reads S rb
  exact notIn_list_reads r2 r1 h2 h1 hu (EP.pure S h (.bool _))
theorem CmpWP.inT {x : V} {xs : List V} {d : PyData} {ds : List PyData} {Q : V → Store → Prop} (hx : DR C σ x d) (hy : DRs C σ xs ds) (h1 : d.canLay0 = true) (h2 : PyData.canLayAll0 ds = true) (hu : A.units + 1 + min (PyData.depthAll ds) d.depth < cLine)
    (h : Q (.bool (ds.any fun y => PyData.eqv y d)) σ) : CmpWP C A .In x (.tup xs) σ Q X := by
  intro s a b S ra rb
  obtain ⟨as, r1⟩ := hx.reads S ra
  obtain ⟨bs, r2⟩ := (DR.tup hy).reads S rb
  exact in_tuple_reads r2 r1 h2 h1 hu (EP.pure S h (.bool _))
/- None, True, False -/
theorem CmpWP.isNone {x : V} {Q : V → Store → Prop} (h : Q (.bool (match x with | .none => true | _ => false)) σ) : CmpWP C A .Is x .none σ Q X := by
  intro s a b S ra rb
  obtain rfl := rb.noneI
  refine is_none (EP.pure S h ?_)
  cases ra <;> exact .bool _
theorem CmpWP.isNotNone {x : V} {Q : V → Store → Prop} (h : Q (.bool (match x with | .none => false | _ => true)) σ) : CmpWP C A .IsNot x .none σ Q X := by
  intro s a b S ra rb
  obtain rfl := rb.noneI
  refine isNot_none (EP.pure S h ?_)
  cases ra <;> exact .bool _

/- lists: truth, length, items -/
theorem TruWP.list {l : Addr} {xs : List V} {Q : Bool → Store → Prop} (hl : LstAt C σ l xs) (hz : xs.length < 2 ^ 62) (h : Q (!xs.isEmpty) σ) : TruWP C A (.ref l) σ Q X := by
  intro s a S r
  obtain rfl := r.refI
  obtain ⟨items, il, rl⟩ := hl.raw S
  have e := rl.length
  simp only [Array.length_toList] at e
  refine wpAny_truthy_list il (by (first | lia | omega)) ⟨σ, ?_, S.toks _, .refl ..⟩
  have : items.isEmpty = xs.isEmpty := by
    unfold Array.isEmpty
    rw [e]
    cases xs <;> simp
  rw [this]; exact h

def BltWP (C : Cx) (A : Around) (id : String) (args : List V) (σ : Store) (Q : V → Store → Prop) (X : XP) : Prop := CallWP C A (.builtin id) args σ Q X

theorem BltWP.len_list {l : Addr} {xs : List V} {Q : V → Store → Prop} (hl : LstAt C σ l xs) (hz : xs.length < 2 ^ 62) (h : Q (.int xs.length) σ) : CallWP C A (.builtin "len") [.ref l] σ Q X := by
  intro s vs S r
  obtain ⟨_, rfl, r1⟩ := r.one
  obtain rfl := r1.refI
  obtain ⟨items, il, rl⟩ := hl.raw S
  have e := rl.length
  simp only [Array.length_toList] at e
  refine Calls.call_len_list il (by (first | lia | omega)) ⟨_, σ, h, ?_, S.toks _, .refl ..⟩
  rw [e]; exact .int _ _
end

end Mine

set_option autoImplicit false
set_option linter.unusedVariables false
namespace Mine
open PySem PySem.W PySem.SeqAt

/-- its items come by a built-in -/
def Gets (s : Shared) (a : Value) : Prop := ∃ T id, s.TypeIs a T ∧ typeLookup (.type T) "__getitem__" = pure (some (.builtin id))
def ItemWP (C : Cx) (A : Around) (o i : V) (σ : Store) (Q : V → Store → Prop) (X : XP) : Prop :=
  ∀ s a b, St C σ s → VR s.heap a o → VR s.heap b i → Gets s a ∧ wpAny C.M A (getItem a b) (EP C σ s.heap Q) X s

section
variable {C : Cx} {A : Around} {env : Env} {ρ : Rho} {σ : Store} {X : XP} {s : Shared}

theorem Gets.list {a : Addr} {items : Array Value} (h : s.heap.IsList a items) : Gets s (.ref a) := ⟨_, _, h.typeIs, PySem.slot_list_getitem.lookup⟩
theorem Gets.tup {a : Addr} {items : Array Value} {n : Nat} (h : s.heap.get? a = some (tupObj items n)) : Gets s (.ref a) := ⟨_, _, ⟨_, h, rfl⟩, PyProof.Rows.slot_tuple_getitem.lookup⟩
theorem Gets.str {x : Str} {t : Tok} : Gets s (.str x t) := ⟨_, _, typeIs_str s x t, PyProof.Rows.slot_str_getitem.lookup⟩

theorem getitem_mine {o i : Value} {slice value : Expr} {Q : Value → Shared → Prop} {E : XP} (g : Gets s o) (h : wpAny C.M A (getItem o i) Q E s) :
    wpAny C.M A (do let r ← subscripted slice (← getitemInPython o) o i; letTemporaryGo value o r; pure r) Q E s := by
  obtain ⟨T, id, hT, hl⟩ := g
  refine wpAny_bind ?_
  rw [getitemInPython_of_ne hT.not_modules]
  refine wpAny_bind (wpAny_specialOf hT hl (wpAny_pure ?_))
  refine wpAny_bind (wpAny_mono (Q := Q) ?_ (fun r s' q => wpAny_bind (wpAny_letTemporaryGo (wpAny_pure q))) fun _ _ z => z)
  cases slice <;> first | exact wpAny_operating h | (rename_i st _; cases st <;> exact wpAny_operating h)

theorem Ev.sub {value slice : Expr} {pos : Pos} {Q : V → Store → Prop} (h : Ev C A env value ρ σ (fun o σ1 => Ev C A env slice ρ σ1 (fun i σ2 => ItemWP C A o i σ2 Q X) X) X) : Ev C A env (.Subscript value slice pos) ρ σ Q X := by
  intro s S F
  rw [eval_Subscript]
  refine wpAny_bind (wpAny_mono (h s S F) ?_ fun _ _ z => z)
  rintro o s1 ⟨x, σ1, h1, r1, S1, e1⟩
  refine wpAny_bind (wpAny_holding (wpAny_mono (h1 s1 S1 (F.evo e1)) ?_ fun _ _ z => z))
  rintro i s2 ⟨y, σ2, h2, r2, S2, e2⟩
  obtain ⟨g, w⟩ := h2 s2 o i S2 (r1.mono e2.tup) r2
  exact wpAny_bind (wpAny_standAt (wpAny_mono (getitem_mine g w) (fun _ _ z => (z.after e2).after e1) fun _ _ z => z))

theorem ItemWP.list {l : Addr} {xs : List V} {k : Int} {y : V} {Q : V → Store → Prop} (hl : LstAt C σ l xs) (h0 : 0 ≤ k) (hk : k < 2 ^ 63) (hx : xs[k.toNat]? = some y) (h : Q y σ) : ItemWP C A (.ref l) (.int k) σ Q X := by
  intro s a b S ra rb
  obtain rfl := ra.refI
  obtain ⟨_, rfl⟩ := rb.intI
  obtain ⟨items, il, rl⟩ := hl.raw S
  obtain ⟨u, hu, ru⟩ := rl.get hx
  exact ⟨.list il, wpAny_getItem_list il h0 hk (by simpa using hu) (EP.pure S h ru)⟩
theorem ItemWP.listNeg {l : Addr} {xs : List V} {k : Int} {y : V} {Q : V → Store → Prop} (hl : LstAt C σ l xs) (h0 : k < 0) (h1 : -(xs.length : Int) ≤ k) (hf : -(2 ^ 63) ≤ k) (hx : xs[(k + xs.length).toNat]? = some y) (h : Q y σ) : ItemWP C A (.ref l) (.int k) σ Q X := by
  intro s a b S ra rb
  obtain rfl := ra.refI
  obtain ⟨_, rfl⟩ := rb.intI
  obtain ⟨items, il, rl⟩ := hl.raw S
  obtain ⟨u, hu, ru⟩ := rl.get hx
  have e := rl.length
  simp only [Array.length_toList] at e
  exact ⟨.list il, wpAny_getItem_list_neg il h0 (by rw [e]; exact h1) hf (by rw [e]; simpa using hu) (EP.pure S h ru)⟩
theorem ItemWP.tup {xs : List V} {k : Int} {j : Nat} {y : V} {Q : V → Store → Prop} (hlo : -(2 ^ 63) ≤ k) (hhi : k < 2 ^ 63) (hj : seqIndex? k xs.length = some j) (hx : xs[j]? = some y) (h : Q y σ) : ItemWP C A (.tup xs) (.int k) σ Q X := by
  intro s a b S ra rb
  obtain ⟨_, rfl⟩ := rb.intI
  cases ra with
  | @tup t items n _ ha hr =>
    obtain ⟨u, hu, ru⟩ := hr.get hx
    have e := hr.length
    simp only [Array.length_toList] at e
    exact ⟨.tup ha, PyProof.Rows.getItem_tuple (t := t) (items := items) ⟨_, ha, rfl, n, rfl⟩ hlo hhi (by rw [e]; exact hj) (by simpa using hu) (EP.pure S h ru)⟩
theorem ItemWP.str {x : Str} {k : Int} {c : Nat} {Q : V → Store → Prop} (hlo : -(2 ^ 63) ≤ k) (hhi : k < 2 ^ 63) (hc : (seqIndex? k x.length).bind (x.cps[·]?) = some c) (h : Q (.str ⟨#[c]⟩) σ) : ItemWP C A (.str x) (.int k) σ Q X := by
  intro s a b S ra rb
  obtain ⟨_, rfl⟩ := rb.intI
  obtain ⟨_, rfl⟩ := ra.strI
  exact ⟨.str, PyProof.Rows.getItem_str (by simp; (first | lia | omega)) hc (EP.pureT S h (.str _ _))⟩

/- dicts -/
theorem ItemWP.sd {d : Addr} {es : List (Str × V)} {k : Str} {y : V} {Q : V → Store → Prop} (hd : σ d = some (.sd es)) (hx : sget es k = some y) (h : Q y σ) : ItemWP C A (.ref d) (.str k) σ Q X := by
  intro s a b S ra rb
  cases ra; cases rb
  rename_i t
  obtain ⟨kvs, D, pr⟩ := S.rep _ _ hd
  obtain ⟨u, hu, ru⟩ := pr.find (x := k) (y := y) hx
  refine ⟨⟨_, _, D.typeIs, PySem.slot_dict_getitem.lookup⟩, ?_⟩
  exact wpAny_getItem_of (knd := strKind C.prog C.w) (k := k) (by show (k == k) = true; simp) D.mapOf hu (EP.pureT S h ru)
def iget (es : List (Int × V)) (x : Int) : Option V := (es.find? fun p => decide (p.1 = x)).map (·.2)
/- slices -/
def Prt (C : Cx) (A : Around) (env : Env) (e : Option Expr) (ρ : Rho) (σ : Store) (Q : Option Int → Store → Prop) (X : XP) : Prop :=
  match e with
  | none => Q none σ
  | some e => Ev C A env e ρ σ (fun x σ1 => ∃ i, x = .int i ∧ Q (some i) σ1) X
theorem Prt.none {Q : Option Int → Store → Prop} (h : Q Option.none σ) : Prt C A env Option.none ρ σ Q X := h
theorem Prt.some {e : Expr} {Q : Option Int → Store → Prop} (h : Ev C A env e ρ σ (fun x σ1 => ∃ i, x = .int i ∧ Q (Option.some i) σ1) X) : Prt C A env (Option.some e) ρ σ Q X := h
theorem Prt.run {e : Option Expr} {Q : Option Int → Store → Prop} (h : Prt C A env e ρ σ Q X) (S : St C σ s) (F : Fm C σ s.heap env ρ) :
    wpAny C.M A (valueOrNone (evalOpt e env)) (fun v s' => ∃ k σ', Q k σ' ∧ IsPart v k ∧ St C σ' s' ∧ Evo σ s.heap σ' s'.heap) X s := by
  match e, h with
  | Option.none, h => exact wpAny_pure ⟨Option.none, σ, h, .none, S, .refl ..⟩
  | Option.some e, h =>
    refine wpAny_mono (h s S F) ?_ fun _ _ z => z
    rintro v s1 ⟨x, σ1, ⟨i, rfl, q⟩, r1, S1, e1⟩
    cases r1
    exact ⟨Option.some i, σ1, q, .int _ _, S1, e1⟩

def pySlice {α : Type} (xs : List α) (lo hi : Option Int) : List α :=
  (sliceRange (sliceBounds lo hi none xs.length).1 (sliceBounds lo hi none xs.length).2.1 (sliceBounds lo hi none xs.length).2.2).filterMap (xs[·]?)
theorem VRs.pick {h : Heap} {vs : List Value} {xs : List V} (r : VRs h vs xs) : ∀ ks : List Nat, VRs h (ks.filterMap (vs[·]?)) (ks.filterMap (xs[·]?))
  | [] => .nil
  | k :: ks => by
    have ih := VRs.pick r ks
    cases q : xs[k]? with
    | none =>
      have : vs[k]? = none := by
        have h1 := List.getElem?_eq_none_iff.mp q
        exact List.getElem?_eq_none_iff.mpr (by rw [r.length]; exact h1)
      simp only [List.filterMap_cons, q, this]; exact ih
    | some y =>
      obtain ⟨u, hu, ru⟩ := r.get q
      simp only [List.filterMap_cons, q, hu]; exact .cons ru ih
theorem slicePick_list (items : Array Value) (lo hi : Option Int) : (slicePick items lo hi none).toList = pySlice items.toList lo hi := by
  unfold slicePick pySlice
  simp
end

end Mine

set_option autoImplicit false
set_option linter.unusedVariables false
namespace Mine
open PySem PySem.W PySem.SeqAt

/-- a built-in type's value without a dict of its own -/
def TyV (C : Cx) (σ : Store) (x : V) (T : String) : Prop := ∀ s v, St C σ s → VR s.heap v x → s.TypeIs v T ∧ ∀ a, v = .ref a → ∃ ob, s.heap.get? a = some ob ∧ ob.dict = none

section
variable {C : Cx} {A : Around} {env : Env} {ρ : Rho} {σ : Store} {X : XP} {s : Shared}

theorem TyV.list {l : Addr} {xs : List V} (h : σ l = some (.list xs)) : TyV C σ (.ref l) "list" := by
  intro s v S r
  cases r
  obtain ⟨items, ⟨n, e⟩, _⟩ := S.rep _ _ h
  exact ⟨⟨_, e, rfl⟩, fun a q => by cases q; exact ⟨_, e, rfl⟩⟩
theorem TyV.str {x : Str} : TyV C σ (.str x) "str" := by
  intro s v S r
  cases r
  exact ⟨typeIs_str _ _ _, fun a q => by cases q⟩

/-- a method of a built-in type -/
theorem Ev.bmeth {o : Expr} {name : Str} {apos pos : Pos} {args : List Expr} {T id : String} {Q : V → Store → Prop} (pa : PlainAttrs T) (slot : Slot T name id) (hty : typeOf (.builtin id) = Pure.pure (.type "method_descriptor"))
    (h : Ev C A env o ρ σ (fun x σ1 => TyV C σ1 x T ∧ Ags C A env pos args ρ σ1 (fun xs σ2 => CallWP C A (.builtin id) (x :: xs) σ2 Q X) X) X)
    (hbase : attributeBase o name env (eval o env) = eval o env := by kernel_rfl)
    (hfew : ((backTo pos (starEach args env)).all (fun x => !x.1) && (backToKw pos (keywordEach [] env)).all (fun x => x.1.isSome)
      && decide (args.length + ([] : List Keyword).length + (if ([] : List Keyword).isEmpty then 0 else 1) < 30)) = true := by kernel_rfl)
    (hline : (apos.endLine == pos.line) = true := by kernel_rfl) (hst : (backTo pos (starEach args env)).any (·.1) = false := by kernel_rfl) : Ev C A env (.Call (.Attribute o name apos) args [] pos) ρ σ Q X := by
  intro s S F
  refine wpAny_Call_method hbase hfew hline pa slot hty (wpAny_mono (h s S F) ?_ fun _ _ z => z)
  rintro ov s1 ⟨x, σ1, ⟨t, q⟩, r1, S1, e1⟩
  obtain ⟨t1, t2⟩ := t s1 ov S1 r1
  exact ⟨t1, t2, wpAny_mono (callWith_mine (first := [ov]) (fx := [x]) Kp.blt S1 (F.evo e1) (.cons r1 .nil) q hst) (fun _ _ z => z.after e1) fun _ _ z => z⟩

/- one list changed -/
theorem upd_list {l : Addr} {xs : List V} {items : Array Value} {n : Nat} {f : Array Value → Array Value} {ys : List V} (S : St C σ s) (hl : σ l = some (.list xs)) (e : s.heap.get? l = some { cls := .type "list", data := .seq items n })
    (r : VRs s.heap (f items).toList ys) : St C (σ.upd l (.list ys)) { s with heap := s.heap.update l (Obj.mapSeq f) } ∧ Evo σ s.heap (σ.upd l (.list ys)) (s.heap.update l (Obj.mapSeq f)) := by
  have sb : Heap.SameBut l s.heap (s.heap.update l (Obj.mapSeq f)) := Heap.SameBut.update ..
  have tk : TupKeep s.heap (s.heap.update l (Obj.mapSeq f)) := tupKeep_sameBut sb (S.rep _ _ hl).notTup
  have e' : ∃ n', (s.heap.update l (Obj.mapSeq f)).get? l = some { cls := .type "list", data := .seq (f items) n' } := by
    refine ⟨if (f items).size == items.size then n else n + 1, ?_⟩
    rw [Heap.get?_update_self _ e (by rfl)]; rfl
  exact S.set (t := s.toks) hl sb ⟨f items, e', r.mono tk⟩

theorem CallWP.append {l : Addr} {xs : List V} {x : V} {Q : V → Store → Prop} (hl : σ l = some (.list xs)) (hz : xs.length ≤ sizeLine) (h : Q .none (σ.upd l (.list (xs ++ [x])))) : CallWP C A (.builtin "list.append") [.ref l, x] σ Q X := by
  intro s vs S r
  obtain ⟨_, _, rfl, r1, r2⟩ := r.two
  obtain rfl := r1.refI
  obtain ⟨items, pl, rl⟩ := S.rep _ _ hl
  have e := rl.length
  simp only [Array.length_toList] at e
  refine wpAny_list_append_plain pl (fun h' pl' sb => ?_) (by (first | lia | omega))
  have tk : TupKeep s.heap h' := tupKeep_sameBut sb (S.rep _ _ hl).notTup
  obtain ⟨S', e'⟩ := S.set (t := s.toks) (o' := .list (xs ++ [x])) hl sb ⟨_, pl', by simp only [Array.toList_push]; exact (rl.mono tk).append (.cons (r2.mono tk) .nil)⟩
  exact ⟨.none, _, h, .none, S', e'⟩

theorem VRs.erase {h : Heap} {vs : List Value} {xs : List V} (r : VRs h vs xs) : ∀ k : Nat, VRs h (vs.eraseIdx k) (xs.eraseIdx k) := by
  refine r.ind (P := fun vs xs => ∀ k : Nat, VRs h (vs.eraseIdx k) (xs.eraseIdx k)) (fun _ => .nil) fun a b ih k => ?_
  cases k with
  | zero => exact b
  | succ k => exact .cons a (ih k)
theorem CallWP.pop_at {l : Addr} {xs : List V} {k : Int} {j : Nat} {y : V} {Q : V → Store → Prop} (hl : σ l = some (.list xs)) (hk : Builtin.List.listFitsIndex k = true) (hj : seqIndex? k xs.length = some j) (hy : xs[j]? = some y) (hz : xs.length ≤ sizeLine)
    (h : Q y (σ.upd l (.list (xs.eraseIdx j)))) : CallWP C A (.builtin "list.pop") [.ref l, .int k] σ Q X := by
  intro s vs S r
  obtain ⟨_, _, rfl, r1, r2⟩ := r.two
  obtain rfl := r1.refI
  obtain ⟨_, rfl⟩ := r2.intI
  rename_i t
  obtain ⟨items, ⟨n, e⟩, rl⟩ := S.rep _ _ hl
  have el := rl.length
  simp only [Array.length_toList] at el
  obtain ⟨u, hu, ru⟩ := rl.get hy
  have hne : items.isEmpty = false := by
    have : j < xs.length := (List.getElem?_eq_some_iff.mp hy).1
    have h0 : items.size ≠ 0 := by (first | lia | omega)
    simpa [Array.isEmpty] using h0
  refine wpAny_call_entry F.slot_list_pop ⟨_, e, rfl⟩ F.entry_list_pop ?_ (F.args_list_pop_2 _ _)
  show wpAny _ _ (do
    if !Builtin.List.listFitsIndex k then rule "list.pop.index-too-large"; raiseError "OverflowError" "Python int too large to convert to C ssize_t"
    let xs ← Builtin.List.listItems (.ref l)
    if xs.isEmpty then rule "list.pop.empty"; raiseError "IndexError" "pop from empty list"
    match (seqIndex? k xs.size).bind fun k => xs[k]?.map (k, ·) with
    | some (k, x) => Builtin.List.listUpdate (.ref l) (·.eraseIdxIfInBounds k); ret x
    | none => rule "list.pop.out-of-range"; raiseError "IndexError" "pop index out of range") _ _ s
  rw [hk]
  refine wpAny_bind (wpAny_listItems e rfl ?_)
  have hu' : items[j]? = some u := by simpa using hu
  simp only [hne, el, hj, Option.bind_some, hu', Option.map_some, Bool.false_eq_true, if_false]
  refine wpAny_bind (wpAny_updateSeq e rfl (wpAny_pure ⟨_, rfl, ?_⟩) (by (first | lia | omega)) (by show (items.eraseIdxIfInBounds j).size ≤ _; unfold Array.eraseIdxIfInBounds; split <;> (try simp) <;> (first | lia | omega)))
  obtain ⟨S', e'⟩ := upd_list (f := fun x => x.eraseIdxIfInBounds j) S hl e (ys := xs.eraseIdx j) (by
    have : (items.eraseIdxIfInBounds j).toList = items.toList.eraseIdx j := by
      have hj' : j < items.size := by rw [el]; exact (List.getElem?_eq_some_iff.mp hy).1
      simp [Array.eraseIdxIfInBounds, hj', Array.toList_eraseIdx]
    rw [this]; exact rl.erase j)
  exact ⟨y, _, h, ru.mono e'.tup, S', e'⟩

/- remove -/
theorem remove_loop_mine {l : Addr} {items : Array Value} {n j : Nat} {x : Value} (hz : items.size ≤ sizeLine) (hj : j < items.size) : ∀ (k i : Nat) (R : Result → Shared → Prop), j - i = k → i ≤ j → s.heap.get? l = some { cls := .type "list", data := .seq items n } →
    (∀ m (hm : m < items.size), i ≤ m → m < j → EqAt A.in1 s items[m] x false) → EqAt A.in1 s items[j] x true → R (.ok (.ret .none)) { s with heap := s.heap.update l (Obj.mapSeq fun xs => xs.eraseIdxIfInBounds j) } →
    codeAny C.M A (.builtin "list.remove.loop" ⟨[.ref l, x, rawInt i], []⟩) R s := by
  intro k
  induction k with
  | zero =>
    intro i R hk hij e hno hit hR
    have : i = j := by (first | lia | omega)
    subst this
    refine codeAny_builtin MeetsSeq.entry_remove_loop ?_
    rw [Around.under_plainId MeetsSeq.plain_remove_loop _]
    refine wpAny_bind (wpAny_listItems e rfl ?_)
    have hi : items[((i : Nat) : Int).toNat]? = some items[i] := by simp [hj]
    rw [hi]
    refine wpAny_bind (hit C.prog C.w _ _ ?_)
    refine wpAny_bind (wpAny_updateSeq e rfl (wpAny_pure hR) hz ?_)
    show (items.eraseIdxIfInBounds i).size ≤ _
    unfold Array.eraseIdxIfInBounds
    split <;> (try simp) <;> (first | lia | omega)
  | succ k ih =>
    intro i R hk hij e hno hit hR
    have hlt : i < items.size := by (first | lia | omega)
    refine codeAny_builtin MeetsSeq.entry_remove_loop ?_
    rw [Around.under_plainId MeetsSeq.plain_remove_loop _]
    refine wpAny_bind (wpAny_listItems e rfl ?_)
    have hi : items[((i : Nat) : Int).toNat]? = some items[i] := by simp [hlt]
    rw [hi]
    refine wpAny_bind (hno i hlt (Nat.le_refl _) (by (first | lia | omega)) C.prog C.w _ _ ?_)
    refine wpAny_pure ⟨plainId_quiet MeetsSeq.plain_remove_loop _, ?_⟩
    exact ih (i + 1) R (by (first | lia | omega)) (by (first | lia | omega)) e (fun m hm h1 h2 => hno m hm (by (first | lia | omega)) h2) hit hR

theorem DRs.get {xs : List V} {ds : List PyData} (h : DRs C σ xs ds) {i : Nat} {x : V} (e : xs[i]? = some x) : ∃ d, ds[i]? = some d ∧ DR C σ x d := by
  cases h with
  | nil => cases e
  | cons a b =>
    cases i with
    | zero => cases e; exact ⟨_, rfl, a⟩
    | succ i => exact DRs.get b e
theorem DRs.length : ∀ {xs : List V} {ds : List PyData}, DRs C σ xs ds → xs.length = ds.length := by
  intro xs
  induction xs with
  | nil => intro ds r; cases r; rfl
  | cons x xs ih =>
    intro ds r
    cases r with
    | cons a b => exact congrArg (· + 1) (ih b)

theorem canLay_get {ds : List PyData} {i : Nat} {d : PyData} (h : PyData.canLayAll0 ds = true) (e : ds[i]? = some d) : d.canLay0 = true :=
  PyData.canLay0_of_mem ds d h (List.mem_of_getElem? e)
theorem depth_get : ∀ {ds : List PyData} {i : Nat} {d : PyData}, ds[i]? = some d → d.depth ≤ PyData.depthAll ds
  | [], _, _, e => by simp at e
  | _ :: ds, 0, _, e => by simp at e; subst e; exact Nat.le_max_left _ _
  | _ :: ds, i + 1, _, e => Nat.le_trans (depth_get (ds := ds) (i := i) (by simpa using e)) (Nat.le_max_right _ _)

theorem CallWP.remove {l : Addr} {xs : List V} {x : V} {d : PyData} {ds : List PyData} {j : Nat} {Q : V → Store → Prop} (hl : σ l = some (.list xs)) (hx : DR C σ x d) (hy : DRs C σ xs ds) (h1 : d.canLay0 = true) (h2 : PyData.canLayAll0 ds = true)
    (hu : A.units + 1 + min (PyData.depthAll ds) d.depth < cLine) (hz : xs.length ≤ sizeLine) (hj : ds.findIdx? (fun y => PyData.eqv y d) = some j) (h : Q .none (σ.upd l (.list (xs.eraseIdx j)))) : CallWP C A (.builtin "list.remove") [.ref l, x] σ Q X := by
  intro s vs S r
  cases r with
  | cons r1 r2 =>
  cases r2 with
  | @cons v _ _ _ r2 r3 =>
  cases r3; cases r1
  obtain ⟨items, ⟨n, e⟩, rl⟩ := S.rep _ _ hl
  have el := rl.length
  simp only [Array.length_toList] at el
  obtain ⟨hjl, hjt, hjf⟩ := List.findIdx?_eq_some_iff_getElem.mp hj
  have hjs : j < items.size := by rw [el, hy.length]; exact hjl
  obtain ⟨as, rx⟩ := hx.reads S r2
  have at_ : ∀ m (hm : m < items.size), ∃ dm, ds[m]? = some dm ∧ EqAt A.in1 s items[m] v (PyData.eqv dm d) := fun m hm => by
    obtain ⟨y, hy1, hy2⟩ := rl.get' (i := m) (u := items[m]) (by simp [hm])
    obtain ⟨dm, hd1, hd2⟩ := hy.get hy1
    obtain ⟨bs, rd⟩ := hd2.reads S hy2
    refine ⟨dm, hd1, fun prog w E Q hq => eqBoolOverData prog w _ E s _ _ dm d _ _ Q rd rx (canLay_get h2 hd1) h1 ?_ hq⟩
    have := depth_get hd1
    show A.units + 1 + _ < _
    (first | lia | omega)
  refine wpAny_call (codeAny_call_builtin F.slot_list_remove.plain F.entry_list_remove (F.slot_list_remove.check _ _ _ _ _ _ _ _ ⟨_, e, rfl⟩ (F.args_list_remove_2 _ _) ?_))
  refine wpAny_pure ⟨plainId_quiet MeetsSeq.plain_remove_loop _, ?_⟩
  refine remove_loop_mine (j := j) (by (first | lia | omega)) hjs _ 0 _ rfl (Nat.zero_le _) e (fun m hm _ hmj => ?_) ?_ ?_
  · obtain ⟨dm, hd1, hd2⟩ := at_ m hm
    have hf := hjf m hmj
    have : ds[m]? = some ds[m] := by simp
    rw [this] at hd1; cases hd1
    rw [Bool.not_eq_true] at hf
    rw [hf] at hd2; exact hd2
  · obtain ⟨dm, hd1, hd2⟩ := at_ j hjs
    have : ds[j]? = some ds[j] := by simp
    rw [this] at hd1; cases hd1
    rw [hjt] at hd2; exact hd2
  · obtain ⟨S', e'⟩ := upd_list (f := fun x => x.eraseIdxIfInBounds j) S hl e (ys := xs.eraseIdx j) (by
      have : (items.eraseIdxIfInBounds j).toList = items.toList.eraseIdx j := by
        simp [Array.eraseIdxIfInBounds, hjs, Array.toList_eraseIdx]
      rw [this]; exact rl.erase j)
    exact ⟨.none, _, h, .none, S', e'⟩

theorem CallWP.clear {l : Addr} {xs : List V} {Q : V → Store → Prop} (hl : σ l = some (.list xs)) (hz : xs.length ≤ sizeLine) (h : Q .none (σ.upd l (.list []))) : CallWP C A (.builtin "list.clear") [.ref l] σ Q X := by
  intro s vs S r
  obtain ⟨_, rfl, r1⟩ := r.one
  obtain rfl := r1.refI
  obtain ⟨items, ⟨n, e⟩, rl⟩ := S.rep _ _ hl
  have el := rl.length
  simp only [Array.length_toList] at el
  refine wpAny_call_entry F.slot_list_clear ⟨_, e, rfl⟩ F.entry_list_clear ?_ (F.args_list_clear_1 _)
  show wpAny _ _ (do let old ← Builtin.List.listItems (.ref l); Builtin.List.listUpdate (.ref l) fun _ => #[]; letGo old.toList.reverse; ret .none) _ _ s
  refine wpAny_bind (wpAny_listItems e rfl (wpAny_bind (wpAny_updateSeq e rfl (wpAny_bind (wpAny_letGo (wpAny_pure ⟨_, rfl, ?_⟩))) (by (first | lia | omega)) (by simp))))
  obtain ⟨S', e'⟩ := upd_list (f := fun _ => #[]) S hl e (ys := []) .nil
  exact ⟨.none, _, h, .none, S', e'⟩
end

end Mine

set_option autoImplicit false
set_option linter.unusedVariables false
namespace Mine
open PySem PySem.W PySem.SeqAt

inductive Ty where
  | none | bool | int | str | tup | list | dict
def Ty.name : Ty → String
  | .none => "NoneType" | .bool => "bool" | .int => "int" | .str => "str" | .tup => "tuple" | .list => "list" | .dict => "dict"
inductive HasTy (C : Cx) (σ : Store) : V → Ty → Prop
  | none : HasTy C σ .none .none
  | bool (b : Bool) : HasTy C σ (.bool b) .bool
  | int (i : Int) : HasTy C σ (.int i) .int
  | str (x : Str) : HasTy C σ (.str x) .str
  | tup (xs : List V) : HasTy C σ (.tup xs) .tup
  | list {l : Addr} {xs : List V} : LstAt C σ l xs → HasTy C σ (.ref l) .list
  | sd {l : Addr} {xs : List (Str × V)} : σ l = some (.sd xs) → HasTy C σ (.ref l) .dict
  | id {l : Addr} {xs : List (Int × V)} : σ l = some (.id xs) → HasTy C σ (.ref l) .dict
def isiB : Ty → String → Bool
  | .bool, "int" => true
  | .bool, "bool" => true
  | .int, "int" => true
  | .str, "str" => true
  | .tup, "tuple" => true
  | .list, "list" => true
  | _, _ => false

section
variable {C : Cx} {A : Around} {env : Env} {ρ : Rho} {σ : Store} {X : XP} {s : Shared}

/-- how the heap bears a value's type -/
def Bears (s : Shared) (v : Value) : Ty → Prop
  | .none => v = .none
  | .bool => ∃ b, v = .bool b
  | .int => ∃ i t, v = .int i t
  | .str => ∃ x t, v = .str x t
  | .tup => ∃ a o, v = .ref a ∧ s.heap.get? a = some o ∧ o.cls = .type "tuple"
  | .list => ∃ a o, v = .ref a ∧ s.heap.get? a = some o ∧ o.cls = .type "list"
  | .dict => ∃ a o, v = .ref a ∧ s.heap.get? a = some o ∧ o.cls = .type "dict"
theorem HasTy.bears {x : V} {t : Ty} (h : HasTy C σ x t) {v : Value} (S : St C σ s) (r : VR s.heap v x) : Bears s v t := by
  cases h with
  | none => exact r.noneI
  | bool b => exact ⟨b, r.boolI⟩
  | int i => exact ⟨i, r.intI⟩
  | str i => exact ⟨i, r.strI⟩
  | tup xs =>
    obtain ⟨a, items, n, rfl, e, _⟩ := r.tupI
    exact ⟨_, _, rfl, e, rfl⟩
  | list hl =>
    obtain rfl := r.refI
    obtain ⟨items, ⟨o, e, c, _⟩, _⟩ := hl.raw S
    exact ⟨_, _, rfl, e, c⟩
  | sd hl =>
    obtain rfl := r.refI
    obtain ⟨kvs, D, _⟩ := S.rep _ _ hl
    obtain ⟨o, e, c⟩ := D.typeIs (s := s)
    exact ⟨_, _, rfl, e, c⟩
  | id hl =>
    obtain rfl := r.refI
    obtain ⟨kvs, D, _⟩ := S.rep _ _ hl
    obtain ⟨o, e, c⟩ := D.typeIs (s := s)
    exact ⟨_, _, rfl, e, c⟩

theorem isi_raw {v : Value} {t : Ty} {U : String} {Q : Value → Shared → Prop} {E : XP} (b : Bears s v t) (hU : U = "int" ∨ U = "bool" ∨ U = "str" ∨ U = "list" ∨ U = "tuple") (h : ∀ tk, Q (.bool (isiB t U)) { s with toks := tk }) :
    wpAny C.M A (call (.builtin "isinstance") [v, .type U]) Q E s := by
  rcases hU with rfl | rfl | rfl | rfl | rfl
  · cases t with
    | none => subst b; exact call_isinstance (isinstance_false_none (by decide +kernel) F.isi_meta_int F.sub_NoneType_int) (h _)
    | bool => obtain ⟨_, rfl⟩ := b; exact call_isinstance (isinstance_true (Tx := "bool") F.isi_meta_int F.sub_bool_int) ⟨rfl, h s.toks⟩
    | int => obtain ⟨_, _, rfl⟩ := b; exact call_isinstance (isinstance_true (Tx := "int") F.isi_meta_int F.sub_int_int) ⟨rfl, h s.toks⟩
    | str => obtain ⟨_, _, rfl⟩ := b; exact call_isinstance (isinstance_false_str (by decide +kernel) F.isi_meta_int F.sub_str_int) (h _)
    | tup => obtain ⟨a, o, rfl, e, hc⟩ := b; exact call_isinstance (isinstance_false_tuple (by decide +kernel) F.isi_meta_int F.sub_tuple_int) ⟨⟨o, e, hc⟩, h _⟩
    | list => obtain ⟨a, o, rfl, e, hc⟩ := b; exact call_isinstance (isinstance_false_list (by decide +kernel) F.isi_meta_int F.sub_list_int) ⟨⟨o, e, hc⟩, h _⟩
    | dict => obtain ⟨a, o, rfl, e, hc⟩ := b; exact call_isinstance (isinstance_false_dict (by decide +kernel) F.isi_meta_int F.sub_dict_int) ⟨⟨o, e, hc⟩, h _⟩
  · cases t with
    | none => subst b; exact call_isinstance (isinstance_false_none (by decide +kernel) F.isi_meta_bool F.sub_NoneType_bool) (h _)
    | bool => obtain ⟨_, rfl⟩ := b; exact call_isinstance (isinstance_true (Tx := "bool") F.isi_meta_bool F.sub_bool_bool) ⟨rfl, h s.toks⟩
    | int => obtain ⟨_, _, rfl⟩ := b; exact call_isinstance (isinstance_false_int (by decide +kernel) F.isi_meta_bool F.sub_int_bool) (h _)
    | str => obtain ⟨_, _, rfl⟩ := b; exact call_isinstance (isinstance_false_str (by decide +kernel) F.isi_meta_bool F.sub_str_bool) (h _)
    | tup => obtain ⟨a, o, rfl, e, hc⟩ := b; exact call_isinstance (isinstance_false_tuple (by decide +kernel) F.isi_meta_bool F.sub_tuple_bool) ⟨⟨o, e, hc⟩, h _⟩
    | list => obtain ⟨a, o, rfl, e, hc⟩ := b; exact call_isinstance (isinstance_false_list (by decide +kernel) F.isi_meta_bool F.sub_list_bool) ⟨⟨o, e, hc⟩, h _⟩
    | dict => obtain ⟨a, o, rfl, e, hc⟩ := b; exact call_isinstance (isinstance_false_dict (by decide +kernel) F.isi_meta_bool F.sub_dict_bool) ⟨⟨o, e, hc⟩, h _⟩
  · cases t with
    | none => subst b; exact call_isinstance (isinstance_false_none (by decide +kernel) F.isi_meta_str F.sub_NoneType_str) (h _)
    | bool => obtain ⟨_, rfl⟩ := b; exact call_isinstance (isinstance_false_bool (by decide +kernel) F.isi_meta_str F.sub_bool_str) (h _)
    | int => obtain ⟨_, _, rfl⟩ := b; exact call_isinstance (isinstance_false_int (by decide +kernel) F.isi_meta_str F.sub_int_str) (h _)
    | str => obtain ⟨_, _, rfl⟩ := b; exact call_isinstance (isinstance_true (Tx := "str") F.isi_meta_str F.sub_str_str) ⟨rfl, h s.toks⟩
    | tup => obtain ⟨a, o, rfl, e, hc⟩ := b; exact call_isinstance (isinstance_false_tuple (by decide +kernel) F.isi_meta_str F.sub_tuple_str) ⟨⟨o, e, hc⟩, h _⟩
    | list => obtain ⟨a, o, rfl, e, hc⟩ := b; exact call_isinstance (isinstance_false_list (by decide +kernel) F.isi_meta_str F.sub_list_str) ⟨⟨o, e, hc⟩, h _⟩
    | dict => obtain ⟨a, o, rfl, e, hc⟩ := b; exact call_isinstance (isinstance_false_dict (by decide +kernel) F.isi_meta_str F.sub_dict_str) ⟨⟨o, e, hc⟩, h _⟩
  · cases t with
    | none => subst b; exact call_isinstance (isinstance_false_none (by decide +kernel) F.isi_meta_list F.sub_NoneType_list) (h _)
    | bool => obtain ⟨_, rfl⟩ := b; exact call_isinstance (isinstance_false_bool (by decide +kernel) F.isi_meta_list F.sub_bool_list) (h _)
    | int => obtain ⟨_, _, rfl⟩ := b; exact call_isinstance (isinstance_false_int (by decide +kernel) F.isi_meta_list F.sub_int_list) (h _)
    | str => obtain ⟨_, _, rfl⟩ := b; exact call_isinstance (isinstance_false_str (by decide +kernel) F.isi_meta_list F.sub_str_list) (h _)
    | tup => obtain ⟨a, o, rfl, e, hc⟩ := b; exact call_isinstance (isinstance_false_tuple (by decide +kernel) F.isi_meta_list F.sub_tuple_list) ⟨⟨o, e, hc⟩, h _⟩
    | list => obtain ⟨a, o, rfl, e, hc⟩ := b; exact call_isinstance (isinstance_true (Tx := "list") F.isi_meta_list F.sub_list_list) ⟨⟨o, e, hc⟩, h s.toks⟩
    | dict => obtain ⟨a, o, rfl, e, hc⟩ := b; exact call_isinstance (isinstance_false_dict (by decide +kernel) F.isi_meta_list F.sub_dict_list) ⟨⟨o, e, hc⟩, h _⟩
  · cases t with
    | none => subst b; exact call_isinstance (isinstance_false_none (by decide +kernel) F.isi_meta_tuple F.sub_NoneType_tuple) (h _)
    | bool => obtain ⟨_, rfl⟩ := b; exact call_isinstance (isinstance_false_bool (by decide +kernel) F.isi_meta_tuple F.sub_bool_tuple) (h _)
    | int => obtain ⟨_, _, rfl⟩ := b; exact call_isinstance (isinstance_false_int (by decide +kernel) F.isi_meta_tuple F.sub_int_tuple) (h _)
    | str => obtain ⟨_, _, rfl⟩ := b; exact call_isinstance (isinstance_false_str (by decide +kernel) F.isi_meta_tuple F.sub_str_tuple) (h _)
    | tup => obtain ⟨a, o, rfl, e, hc⟩ := b; exact call_isinstance (isinstance_true (Tx := "tuple") F.isi_meta_tuple F.sub_tuple_tuple) ⟨⟨o, e, hc⟩, h s.toks⟩
    | list => obtain ⟨a, o, rfl, e, hc⟩ := b; exact call_isinstance (isinstance_false_list (by decide +kernel) F.isi_meta_tuple F.sub_list_tuple) ⟨⟨o, e, hc⟩, h _⟩
    | dict => obtain ⟨a, o, rfl, e, hc⟩ := b; exact call_isinstance (isinstance_false_dict (by decide +kernel) F.isi_meta_tuple F.sub_dict_tuple) ⟨⟨o, e, hc⟩, h _⟩

theorem CallWP.isi {x : V} {t : Ty} {U : String} {Q : V → Store → Prop} (ht : HasTy C σ x t) (hU : U = "int" ∨ U = "bool" ∨ U = "str" ∨ U = "list" ∨ U = "tuple") (h : Q (.bool (isiB t U)) σ) : CallWP C A (.builtin "isinstance") [x, .typ U] σ Q X := by
  intro s vs S r
  obtain ⟨_, _, rfl, r1, r2⟩ := r.two
  obtain rfl := r2.typI
  exact isi_raw (ht.bears S r1) hU fun tk => EP.pureT S h (.bool _)

/- list(), tuple() -/
theorem CallWP.listOf {l : Addr} {xs : List V} {Q : V → Store → Prop} (hl : LstAt C σ l xs) (hz : xs.length ≤ sizeLine) (h : ∀ a, σ a = Option.none → Q (.ref a) (σ.upd a (.list xs))) : CallWP C A (.type "list") [.ref l] σ Q X := by
  intro s vs S r
  obtain ⟨_, rfl, r1⟩ := r.one
  obtain rfl := r1.refI
  obtain ⟨items, ⟨o, e, c, n, hd⟩, rl⟩ := hl.raw S
  have el := rl.length
  simp only [Array.length_toList] at el
  refine call_list_seq l (.inl rfl) e c hd (fun h' c' kp e' => ?_) (by (first | lia | omega))
  have S' : St C σ { s with heap := h', toks := s.toks } := S.ext kp
  obtain ⟨S2, e2⟩ := S'.adopt (a := s.heap.objs.size) (o := .list xs) (σ0 := σ) (h0 := s.heap) ⟨items, ⟨c', e'⟩, rl.mono fun _ _ _ q => kp _ _ q⟩ S.size (.ext kp) (get?_fresh _)
  exact ⟨.ref _, _, h _ S.fresh, .ref _, S2, e2⟩
theorem CallWP.listOfTup {xs : List V} {Q : V → Store → Prop} (hz : xs.length ≤ sizeLine) (h : ∀ a, σ a = Option.none → Q (.ref a) (σ.upd a (.list xs))) : CallWP C A (.type "list") [.tup xs] σ Q X := by
  intro s vs S r
  obtain ⟨_, rfl, r1⟩ := r.one
  cases r1 with
  | @tup a items n _ e rl =>
  have el := rl.length
  simp only [Array.length_toList] at el
  refine call_list_seq a (.inr rfl) e rfl rfl (fun h' c' kp e' => ?_) (by (first | lia | omega))
  have S' : St C σ { s with heap := h', toks := s.toks } := S.ext kp
  obtain ⟨S2, e2⟩ := S'.adopt (a := s.heap.objs.size) (o := .list xs) (σ0 := σ) (h0 := s.heap) ⟨items, ⟨c', e'⟩, rl.mono fun _ _ _ q => kp _ _ q⟩ S.size (.ext kp) (get?_fresh _)
  exact ⟨.ref _, _, h _ S.fresh, .ref _, S2, e2⟩
theorem CallWP.tupOf {l : Addr} {xs : List V} {Q : V → Store → Prop} (hl : LstAt C σ l xs) (hz : xs.length ≤ sizeLine) (h : Q (.tup xs) σ) : CallWP C A (.type "tuple") [.ref l] σ Q X := by
  intro s vs S r
  obtain ⟨_, rfl, r1⟩ := r.one
  obtain rfl := r1.refI
  obtain ⟨items, il, rl⟩ := hl.raw S
  have el := rl.length
  simp only [Array.length_toList] at el
  refine call_tuple_list il (fun h' kp => ?_) (by (first | lia | omega))
  have S' : St C σ { s with heap := h', toks := s.toks } := S.ext kp
  exact ⟨.tup xs, σ, h, .tup (n := 0) (Heap.get?_push_size _ rfl) ((rl.mono fun _ _ _ q => kp _ _ q).push), S'.push, (Evo.ext kp).trans .push⟩
/- len, abs -/
theorem CallWP.len_tup {xs : List V} {Q : V → Store → Prop} (hz : xs.length < 2 ^ 62) (h : Q (.int xs.length) σ) : CallWP C A (.builtin "len") [.tup xs] σ Q X := by
  intro s vs S r
  obtain ⟨_, rfl, r1⟩ := r.one
  cases r1 with
  | @tup a items n _ e rl =>
  have el := rl.length
  simp only [Array.length_toList] at el
  refine PyProof.Rows.len_tuple (t := a) (items := items) ⟨_, e, rfl, n, rfl⟩ (by (first | lia | omega)) ⟨_, σ, h, ?_, S.toks _, .refl ..⟩
  rw [el]; exact .int _ _
theorem CallWP.len_str {x : Str} {Q : V → Store → Prop} (hz : x.length < 2 ^ 62) (h : Q (.int x.length) σ) : CallWP C A (.builtin "len") [.str x] σ Q X := by
  intro s vs S r
  obtain ⟨_, rfl, r1⟩ := r.one
  obtain ⟨_, rfl⟩ := r1.strI
  exact PyProof.Rows.len_str (by (first | lia | omega)) ⟨_, σ, h, .int _ _, S.toks _, .refl ..⟩
end

end Mine

set_option autoImplicit false
set_option linter.unusedVariables false
namespace Mine
open PySem PySem.W PySem.SeqAt

section
variable {C : Cx} {A : Around} {env : Env} {ρ : Rho} {σ : Store} {X : XP} {s : Shared}

theorem BinWP.cat {l b : Addr} {xs ys : List V} {Q : V → Store → Prop} (hl : LstAt C σ l xs) (hb : LstAt C σ b ys) (hz : xs.length + ys.length ≤ sizeLine) (h : ∀ a, σ a = none → Q (.ref a) (σ.upd a (.list (xs ++ ys)))) :
    BinWP C A .Add (.ref l) (.ref b) σ Q X := by
  intro s u v S r1 r2
  cases r1; cases r2
  obtain ⟨items, ⟨⟨c1, d1, t1, s1⟩, ho, hc, n, hd⟩, rl⟩ := hl.raw S
  obtain ⟨items2, ⟨⟨c2, d2, t2, s2⟩, ho2, hc2, n2, hd2⟩, rl2⟩ := hb.raw S
  have el := rl.length
  have el2 := rl2.length
  simp only [Array.length_toList] at el el2
  dsimp only at hc hd hc2 hd2
  subst hc hd hc2 hd2
  refine concat_meets ⟨_, ho, rfl⟩ ⟨_, ho2, rfl⟩ noFill_list_add seq_list_add PySem.F.slot_list_add PySem.F.entry_list_add (PySem.F.args_list_add_2 _ _) (PyProof.Rows.list_addW l b items items2 n n2 d1 d2 s1 s2 (by (first | lia | omega))) ⟨ho, ho2, ?_⟩
  obtain ⟨S2, e2⟩ := S.new (t := s.toks) (x := { cls := .type "list", data := .seq (items ++ items2) }) (o := .list (xs ++ ys)) ⟨_, ⟨0, Heap.get?_push_size _ rfl⟩, by simp only [Array.toList_append]; exact (rl.append rl2).push⟩
  exact ⟨.ref _, _, h _ S.fresh, .ref _, S2, e2⟩

/- texts -/
/- dicts -/
theorem Ev.dict0 {pos : Pos} {Q : V → Store → Prop} (h : ∀ a, σ a = none → Q (.ref a) (σ.upd a (.sd []))) : Ev C A env (.Dict [] [] pos) ρ σ Q X := by
  intro s S F
  refine wpAny_Dict_empty ?_
  obtain ⟨S2, e2⟩ := S.new (t := s.toks) (x := { cls := .type "dict", data := .dict #[] }) (o := .sd []) ⟨[], Heap.DictOf.new _, .nil⟩
  exact ⟨.ref _, _, h _ S.fresh, .ref _, S2, e2⟩
/-- the store of an item -/
def SetWP (C : Cx) (A : Around) (o i y : V) (σ : Store) (Q : Store → Prop) (X : XP) : Prop :=
  ∀ s a b v, St C σ s → VR s.heap a o → VR s.heap b i → VR s.heap v y → wpAny C.M A (setItem a b v) (fun _ s' => ∃ σ', Q σ' ∧ St C σ' s' ∧ Evo σ s.heap σ' s'.heap) X s
theorem assign_sub (o i : Expr) (pos : Pos) (env : Env) (v : Value) : assign (.Subscript o i pos) env v = (do
    let ov ← holding [v] (eval o env)
    let iv ← holding [v, ov] (eval i env)
    standAt pos
    holding [v, ov, iv] (setItem ov iv v)
    release (match i with | .Slice _ _ none _ => [iv, v, ov] | _ => [v, ov, iv]) []) := rfl
theorem Asg.sub {o i : Expr} {pos : Pos} {y : V} {Q : Rho → Store → Prop} (h : Ev C A env o ρ σ (fun x σ1 => Ev C A env i ρ σ1 (fun z σ2 => SetWP C A x z y σ2 (fun σ3 => Q ρ σ3) X) X) X) : Asg C A env (.Subscript o i pos) y ρ σ Q X := by
  intro s v S F r
  rw [assign_sub]
  refine wpAny_bind (wpAny_holding (wpAny_mono (h s S F) ?_ fun _ _ z => z))
  rintro ov s1 ⟨x, σ1, h1, r1, S1, e1⟩
  refine wpAny_bind (wpAny_holding (wpAny_mono (h1 s1 S1 (F.evo e1)) ?_ fun _ _ z => z))
  rintro iv s2 ⟨z, σ2, h2, r2, S2, e2⟩
  refine wpAny_bind (wpAny_standAt (wpAny_bind (wpAny_holding (wpAny_mono (h2 s2 ov iv v S2 (r1.mono e2.tup) r2 ((r.mono e1.tup).mono e2.tup)) ?_ fun _ _ z => z))))
  rintro _ s3 ⟨σ3, q, S3, e3⟩
  have e := (e1.trans e2).trans e3
  exact PyProof.Rows.wpAny_release' ⟨ρ, σ3, q, S3, F.evo e, e.evoF F.own⟩

theorem SetWP.sd {d : Addr} {es : List (Str × V)} {k : Str} {y : V} {Q : Store → Prop} (hd : σ d = some (.sd es)) (hz : es.length ≤ sizeLine) (h : Q (σ.upd d (.sd (sput es k y)))) : SetWP C A (.ref d) (.str k) y σ Q X := by
  intro s a b v S ra rb rv
  obtain rfl := ra.refI
  obtain ⟨_, rfl⟩ := rb.strI
  obtain ⟨kvs, D, pr⟩ := S.rep _ _ hd
  have hnd : (kvs.map (·.1)).Nodup := by obtain ⟨_, _, _, _, _, _, _, _, hn⟩ := D; exact hn
  refine wpAny_setItem_pairs (knd := strKind C.prog C.w) (k := k) (by show (k == k) = true; simp) D (fun h' D' sb => ?_) (by rw [pr.length]; exact hz)
  have tk : TupKeep s.heap h' := tupKeep_sameBut sb (S.rep _ _ hd).notTup
  obtain ⟨S2, e2⟩ := S.set (t := s.toks + 1) (o' := .sd (sput es k y)) hd sb ⟨_, D', PR.stored (rv.mono tk) (pr.mono tk) hnd⟩
  exact ⟨_, h, S2, e2⟩
def iput : List (Int × V) → Int → V → List (Int × V)
  | [], x, v => [(x, v)]
  | (y, u) :: r, x, v => if x = y then (x, v) :: r else (y, u) :: iput r x v
/- in a dict -/
def SysOk (C : Cx) : Prop := (sysModules < C.n₀ ∧ sysModules ∉ C.tabs ∧ ¬ C.loose) ∨ ∃ o, C.h₀.get? sysModules = some o
theorem St.notSys {a : Addr} {o : O} (S : St C σ s) (hn : SysOk C) (h : σ a = some o) : (a == sysModules) = false := by
  refine beq_eq_false_iff_ne.mpr fun q => ?_
  rcases hn with hn | ⟨o', e⟩
  · rcases (S.above a o h).2 with this | this | this
    · rw [q] at this; exact absurd hn.1 (Nat.not_lt.mpr this)
    · rw [q] at this; exact hn.2.1 this
    · exact hn.2.2 this
  · rw [← q, (S.above a o h).1] at e; cases e
theorem valueAt_isSome {K : Type} [DecidableEq K] {h : Heap} {x : K} {kvs : List (K × Value)} {es : List (K × V)} (z : PR h kvs es) : (valueAt kvs x).isSome = ((es.find? fun p => decide (p.1 = x)).map (·.2)).isSome := by
  induction z with
  | nil => rfl
  | @cons k _ _ _ _ r rs ih =>
    unfold valueAt
    by_cases q : k = x
    · subst q; simp
    · simp only [List.find?_cons, q, decide_false]
      exact ih
theorem CmpWP.inSd {d : Addr} {es : List (Str × V)} {k : Str} {Q : V → Store → Prop} (hd : σ d = some (.sd es)) (hn : SysOk C) (h : Q (.bool (sget es k).isSome) σ) : CmpWP C A .In (.str k) (.ref d) σ Q X := by
  intro s a b S ra rb
  obtain ⟨_, rfl⟩ := ra.strI
  obtain rfl := rb.refI
  obtain ⟨kvs, D, pr⟩ := S.rep _ _ hd
  refine wpAny_in_of (knd := strKind C.prog C.w) (k := k) (by show (k == k) = true; simp) (S.notSys hn hd) D.mapOf (EP.pureT S ?_ (.bool _))
  rw [valueAt_isSome pr]; exact h
end

end Mine

set_option autoImplicit false
set_option linter.unusedVariables false
namespace Mine
open PySem PySem.W PySem.SeqAt PyProof.Rows

section
variable {C : Cx} {A : Around} {env : Env} {ρ : Rho} {σ : Store} {X : XP} {s : Shared}

theorem ofS_ne {a b : String} (h : a ≠ b) : Str.ofString a ≠ Str.ofString b := by
  intro e
  rw [Str.ofString_eq_toList, Str.ofString_eq_toList] at e
  injection e with e
  have e1 : a.toList.map Char.toNat = b.toList.map Char.toNat := by
    have := congrArg Array.toList e; simpa using this
  have inj : Function.Injective Char.toNat := fun x y hxy => by
    have : x.val.toNat = y.val.toNat := hxy
    exact Char.ext (UInt32.toNat_inj.mp this)
  have e2 : a.toList = b.toList := by
    have : ∀ (l m : List Char), l.map Char.toNat = m.map Char.toNat → l = m := by
      intro l
      induction l with
      | nil => intro m hm; cases m with | nil => rfl | cons _ _ => simp at hm
      | cons x l ih =>
        intro m hm
        cases m with
        | nil => simp at hm
        | cons y m =>
          simp only [List.map_cons, List.cons.injEq] at hm
          rw [inj hm.1, ih m hm.2]
    exact this _ _ e1
  exact h (by rw [← String.ofList_toList (s := a), ← String.ofList_toList (s := b), e2])

/-- a call of a def of the text -/
theorem CallWP.fnK {f : Addr} {name qual : Str} {params : Arguments} {body : List Stmt} {scope : Scope} {dV kV doc pm cdv ct oc : Value} {an od : Option Addr} {osl : Array (Option Value)} {names : List Str} {args : List V} {Q : V → Store → Prop}
    (ho : C.K.lookup f = some ⟨oc, od, .func (fnOf name qual params body scope dV kV doc pm an cdv ct), osl⟩) (hcd : codeIn C.K cdv qual = true)
    (hroom : A.depth < recursionLimit)
    (h : ∀ L, Exs C (A.deeper (callEnvC (fnOf name qual params body scope dV kV doc pm an cdv ct) L f)) (callEnvC (fnOf name qual params body scope dV kV doc pm an cdv ct) L f) body (names.zip args) σ (fun g _ σ' => Q g.val σ') (fun _ _ => False))
    (hbind : ∀ vals : List Value, vals.length = args.length → bindArgs (fnOf name qual params body scope dV kV doc pm an cdv ct) ⟨vals, []⟩ = pure (names.zip vals)) (nd : names.Nodup)
    (hkind : (names.all fun y => scope.names.lookup y == some .local || scope.names.lookup y == some .cell) = true) (hsc : scopeOk scope = true) (hco : scope.isCoroutine = false) (hgen : scope.isGenerator = false) (hk : scope.kind = .function) :
    CallWP C A (.ref f) args σ Q X := by
  refine CallWP.fn (C.KX _ _ ho) rfl C.lim (codeRec_of C.KX hcd) rfl hbind rfl nd (fun x hx => ?_) hroom hsc hco hgen hk h
  have := List.all_eq_true.mp hkind x hx
  rcases Bool.or_eq_true_iff.mp this with q | q
  · exact .inl (by simpa using q)
  · have q' : scope.names.lookup x = some .cell := by simpa using q
    exact .inr ⟨q', fun L => cellsFrom_some _ _ _ (.inl q')⟩
end
end Mine

set_option autoImplicit false
set_option linter.unusedVariables false
namespace Mine
open PySem PySem.W PySem.SeqAt PyProof.Rows

/-- a frame's surroundings, its table of names apart -/
abbrev mkE (sc : Scope) (L : Addr) (cells : List (Str × Addr)) (q : Str) (fn : Option Addr) (cd : Value) (fr : Option Addr) : Env :=
  { scope := sc, locals := L, globals := mainGlobals, cells := cells, qual := q, func := fn, code := cd, frame := fr, builtins := builtinsNs }
/-- a comprehension's table of names -/
def reS (scope sc : Scope) : Scope := { scope with names := scope.names.map fun (n, k) => if (k == .free && sc.kind == .function && sc.names.lookup n == some .cell) then (n, .cell) else (n, k) }
section
variable {C : Cx} {A : Around} {ρ : Rho} {σ : Store} {X : XP} {s : Shared} {sc : Scope} {L : Addr} {cells : List (Str × Addr)} {q : Str} {fn : Option Addr} {cd : Value} {fr : Option Addr}

theorem Ev.nloc {x : Str} {pos : Pos} {v : V} {Q : V → Store → Prop} (hk : sc.names.lookup x = some .local) (hv : ρ.get x = some v) (h : Q v σ) (hd : (x == ("__debug__" : Str)) = false := by kernel_rfl) : Ev C A (mkE sc L cells q fn cd fr) (.Name x pos) ρ σ Q X :=
  Ev.loc hk hv h hd
theorem Ev.ncel {x : Str} {pos : Pos} {v : V} {Q : V → Store → Prop} (hk : sc.names.lookup x = some .cell) (hv : ρ.get x = some v) (h : Q v σ) (hc : (cells.lookup x).isSome = true := by kernel_rfl) (hd : (x == ("__debug__" : Str)) = false := by kernel_rfl) : Ev C A (mkE sc L cells q fn cd fr) (.Name x pos) ρ σ Q X := by
  obtain ⟨c, hc⟩ := Option.isSome_iff_exists.mp hc
  exact Ev.cel hk hc hv h hd
theorem Ev.nglob {x : Str} {pos : Pos} {v : Value} {y : V} {Q : V → Store → Prop} (hk : sc.names.lookup x = some .globalImplicit) (e : nsIn C.K mainGlobals x = some (some v)) (r : VR C.h₀ v y) (h : Q y σ) (hd : (x == ("__debug__" : Str)) = false := by kernel_rfl) :
    Ev C A (mkE sc L cells q fn cd fr) (.Name x pos) ρ σ Q X := Ev.glob hk e r h rfl hd
theorem Ev.nblt {x : Str} {pos : Pos} {v : Value} {y : V} {Q : V → Store → Prop} (hk : sc.names.lookup x = some .globalImplicit) (e : nsIn C.K mainGlobals x = some none) (hv : bootBuiltins x = some v) (r : VR C.h₀ v y) (h : Q y σ) (hn : x ≠ "__name__") (hd : (x == ("__debug__" : Str)) = false := by kernel_rfl) :
    Ev C A (mkE sc L cells q fn cd fr) (.Name x pos) ρ σ Q X := Ev.gblt hk e hv r h hn rfl rfl hd
theorem Asg.nloc {x : Str} {pos : Pos} {y : V} {ρ' : Rho} {Q : Rho → Store → Prop} (hk : sc.names.lookup x = some .local) (hp : ρ.put x y = ρ') (h : Q ρ' σ) (hc : cells.lookup x = none := by kernel_rfl) :
    Asg C A (mkE sc L cells q fn cd fr) (.Name x pos) y ρ σ Q X := Asg.loc hk hc hp h
theorem Asg.ncel {x : Str} {pos : Pos} {y : V} {ρ' : Rho} {Q : Rho → Store → Prop} (hk : sc.names.lookup x = some .cell) (hp : ρ.put x y = ρ') (h : Q ρ' σ) (hc : (cells.lookup x).isSome = true := by kernel_rfl) :
    Asg C A (mkE sc L cells q fn cd fr) (.Name x pos) y ρ σ Q X := by
  obtain ⟨c, hc⟩ := Option.isSome_iff_exists.mp hc
  exact Asg.cel hk hc hp h

theorem Then.next {env : Env} {ss : List Stmt} {Q : FV → Rho → Store → Prop} (h : Exs C A env ss ρ σ Q X) : Then C A env ss Q X .next ρ σ := h
theorem Then.ret {env : Env} {ss : List Stmt} {v : V} {Q : FV → Rho → Store → Prop} (h : Q (.ret v) ρ σ) : Then C A env ss Q X (.ret v) ρ σ := h
/-- a call of a def of the text -/
theorem CallWP.def {f : Addr} {name qual : Str} {params : Arguments} {body : List Stmt} {scope : Scope} {dV kV doc pm cdv ct oc : Value} {an od : Option Addr} {osl : Array (Option Value)} (names : List Str) {args : List V} {Q : V → Store → Prop}
    (ho : C.K.lookup f = some ⟨oc, od, .func (fnOf name qual params body scope dV kV doc pm an cdv ct), osl⟩) (hcd : codeIn C.K cdv qual = true)
    (hroom : A.depth < recursionLimit)
    (hbind : ∀ vals : List Value, vals.length = args.length → bindArgs (fnOf name qual params body scope dV kV doc pm an cdv ct) ⟨vals, []⟩ = pure (names.zip vals)) (nd : names.Nodup)
    (hkind : (names.all fun y => scope.names.lookup y == some .local || scope.names.lookup y == some .cell) = true) (hsc : scopeOk scope = true) (hco : scope.isCoroutine = false) (hgen : scope.isGenerator = false) (hk : scope.kind = .function)
    (h : ∀ L A', A'.handled = A.handled → A'.depth = A.depth + 1 → A'.units = A.units + 3 → Exs C A' (mkE scope L (cellsFrom (L + 1) scope.names []) (qual ++ ".<locals>.") (some f) cdv (some L)) body (names.zip args) σ (fun g _ σ' => Q g.val σ') (fun _ _ => False)) :
    CallWP C A (.ref f) args σ Q X :=
  CallWP.fnK ho hcd hroom (fun L => h L _ rfl rfl rfl) hbind nd hkind hsc hco hgen hk

/-- a comprehension -/
theorem Ev.lcomp {x : Str} {px pos : Pos} {elt iter : Expr} {ifs : List Expr} {scope : Scope} {ρc : Rho} {Q : V → Store → Prop} (cap : Capt ρ scope.names ρc) (hx : scope.names.lookup x = some .local) (hck : compOk scope = true) (hk : scope.kind = .function)
    (h : Src C A (mkE sc L cells q fn cd fr) (.Name x px) iter ρ σ (fun xs ok σ1 => ∀ L', CmpL C A (mkE (reS scope sc) L' (clOf cells scope.names []) q none cd fr) x ifs elt ok ρc (fun out σ2 => ∀ a, σ2 a = Option.none → Q (.ref a) (σ2.upd a (.list out))) xs [] σ1) X)
    (hfree : (scope.names.all fun p => p.2 != .free || (cells.lookup p.1).isSome) = true := by kernel_rfl) 
    (hs : ∀ x, foldedSetIterable iter (mkE sc L cells q fn cd fr) x = Pure.pure x := by intro _; kernel_rfl) : Ev C A (mkE sc L cells q fn cd fr) (.ListComp elt [⟨.Name x px, iter, ifs, 0⟩] scope pos) ρ σ Q X :=
  Ev.comp hfree hck hk hx cap h hs
theorem Ex.lassign {x y : Str} {px py pos spos : Pos} {elt iter : Expr} {ifs : List Expr} {scope : Scope} {ρc : Rho} {Q : FV → Rho → Store → Prop} (cap : Capt ρ scope.names ρc) (hx : scope.names.lookup x = some .local) (hck : compOk scope = true) (hk : scope.kind = .function)
    (hy : sc.names.lookup y = some .local)
    (h : Src C A (mkE sc L cells q fn cd fr) (.Name x px) iter ρ σ (fun xs ok σ1 => ∀ L', CmpL C A (mkE (reS scope sc) L' (clOf cells scope.names []) q none cd fr) x ifs elt ok ρc (fun out σ2 => ∀ a, σ2 a = none → Q .next (ρ.put y (.ref a)) (σ2.upd a (.list out))) xs [] σ1) X)
    (hsw : swapsWith (.ListComp elt [⟨.Name x px, iter, ifs, 0⟩] scope pos) (some (.Name y py)) spos.line (mkE sc L cells q fn cd fr) = pure true := by kernel_rfl)
    (hfree : (scope.names.all fun p => p.2 != .free || (cells.lookup p.1).isSome) = true := by kernel_rfl) (hyc : cells.lookup y = none := by kernel_rfl)
    (hs : ∀ x, foldedSetIterable iter (mkE sc L cells q fn cd fr) x = pure x := by intro _; kernel_rfl) : Ex C A (mkE sc L cells q fn cd fr) (.Assign [.Name y py] (.ListComp elt [⟨.Name x px, iter, ifs, 0⟩] scope pos) spos) ρ σ Q X :=
  Ex.assignComp hfree hck hk hx cap hy hyc h hsw hs

/-- f(args): f a def or a class of the text -/
theorem Ev.callR {func : Expr} {args : List Expr} {pos : Pos} {Q : V → Store → Prop} {env : Env}
    (h : Ev C A env func ρ σ (fun fx σ1 => ∃ f, fx = .ref f ∧ keepIn C.K (.ref f) = true ∧ Ags C A env pos args ρ σ1 (fun xs σ2 => CallWP C A (.ref f) xs σ2 Q X) X) X)
    (hev : eval (.Call func args [] pos) env = (do callWith pos (← eval func env) [] (backTo pos (starEach args env)) (backToKw pos (keywordEach [] env))) := by kernel_rfl)
    (he : (backTo pos (starEach args env)).any (·.1) = false := by kernel_rfl) : Ev C A env (.Call func args [] pos) ρ σ Q X := by
  intro s S F
  rw [hev]
  refine wpAny_bind (wpAny_mono (h s S F) ?_ fun _ _ z => z)
  rintro v s1 ⟨x, σ1, ⟨f, rfl, kp, q⟩, r1, S1, e1⟩
  cases r1
  exact wpAny_mono (callWith_mine (first := []) (fx := []) (Kp.ref kp) S1 (F.evo e1) .nil q he) (fun _ _ z => z.after e1) fun _ _ z => z
/-- f(args): f a built-in, or a built-in class -/
theorem Ev.callB {func : Expr} {args : List Expr} {pos : Pos} {Q : V → Store → Prop} {env : Env}
    (h : Ev C A env func ρ σ (fun fx σ1 => ∃ f, (fx = .blt f ∧ Ags C A env pos args ρ σ1 (fun xs σ2 => CallWP C A (.builtin f) xs σ2 Q X) X) ∨ (fx = .typ f ∧ Ags C A env pos args ρ σ1 (fun xs σ2 => CallWP C A (.type f) xs σ2 Q X) X)) X)
    (hev : eval (.Call func args [] pos) env = (do callWith pos (← eval func env) [] (backTo pos (starEach args env)) (backToKw pos (keywordEach [] env))) := by kernel_rfl)
    (he : (backTo pos (starEach args env)).any (·.1) = false := by kernel_rfl) : Ev C A env (.Call func args [] pos) ρ σ Q X := by
  intro s S F
  rw [hev]
  refine wpAny_bind (wpAny_mono (h s S F) ?_ fun _ _ z => z)
  rintro v s1 ⟨x, σ1, ⟨f, (⟨rfl, q⟩ | ⟨rfl, q⟩)⟩, r1, S1, e1⟩
  · cases r1
    exact wpAny_mono (callWith_mine (first := []) (fx := []) Kp.blt S1 (F.evo e1) .nil q he) (fun _ _ z => z.after e1) fun _ _ z => z
  · cases r1
    exact wpAny_mono (callWith_mine (first := []) (fx := []) Kp.typ S1 (F.evo e1) .nil q he) (fun _ _ z => z.after e1) fun _ _ z => z
end
end Mine
namespace Mine
open PySem PySem.W
theorem CmpL.pure {C : Cx} {A : Around} {env : Env} {x : Str} {ifs : List Expr} {elt : Expr} {ok : Store → Prop} {ρ : Rho} {R : List V → Store → Prop} {σ : Store} (p : V → Bool) (f : V → V) (hok : ok σ) :
    ∀ (ys out : List V), (∀ y ∈ ys, ∀ Q : Bool → Store → Prop, Q (p y) σ → Ifs C A env ifs (ρ.put x y) σ Q (fun _ _ => False)) → (∀ y ∈ ys, p y = true → ∀ Q : V → Store → Prop, Q (f y) σ → Ev C A env elt (ρ.put x y) σ Q (fun _ _ => False)) →
    out.length + ys.length ≤ sizeLine → R (out ++ (ys.filter p).map f) σ → CmpL C A env x ifs elt ok ρ R ys out σ
  | [], out, _, _, _, h => by simpa [CmpL] using h
  | y :: ys, out, h1, h2, hz, h => by
    unfold CmpL
    refine h1 y (.head _) _ ?_
    simp only [List.length_cons] at hz
    cases q : p y with
    | true =>
      simp only [if_true]
      refine h2 y (.head _) q _ ⟨by (first | lia | omega), hok, ?_⟩
      refine CmpL.pure p f hok ys (out ++ [f y]) (fun z hz => h1 z (.tail _ hz)) (fun z hz => h2 z (.tail _ hz)) (by simp; (first | lia | omega)) ?_
      simpa [List.filter_cons, q] using h
    | false =>
      simp only [Bool.false_eq_true, if_false]
      refine ⟨hok, CmpL.pure p f hok ys out (fun z hz => h1 z (.tail _ hz)) (fun z hz => h2 z (.tail _ hz)) (by (first | lia | omega)) ?_⟩
      simpa [List.filter_cons, q] using h
theorem Ifs.nil {C : Cx} {A : Around} {env : Env} {ρ : Rho} {σ : Store} {X : XP} {Q : Bool → Store → Prop} (h : Q true σ) : Ifs C A env [] ρ σ Q X := h
theorem Ifs.one {C : Cx} {A : Around} {env : Env} {ρ : Rho} {σ : Store} {X : XP} {c : Expr} {Q : Bool → Store → Prop} (h : Tst C A env c ρ σ Q X) : Ifs C A env [c] ρ σ Q X := h
end Mine

/- arities -/
namespace Mine
open PySem PySem.W PySem.SeqAt PyProof.Rows
section
variable {C : Cx} {A : Around} {σ : Store} {X : XP}
theorem lenS {α : Type} {n : Nat} {l : List α} (h : l.length = n + 1) : ∃ a t, l = a :: t ∧ t.length = n := by
  cases l with
  | nil => cases h
  | cons a t => exact ⟨a, t, rfl, Nat.succ.inj h⟩
theorem CallWP.def1 (x1 : Str) {f : Addr} {name qual : Str} {params : Arguments} {body : List Stmt} {scope : Scope} {dV kV doc pm cdv ct oc : Value} {an od : Option Addr} {osl : Array (Option Value)} {v1 : V} {Q : V → Store → Prop}
    (ho : C.K.lookup f = some ⟨oc, od, .func (fnOf name qual params body scope dV kV doc pm an cdv ct), osl⟩) (hcd : codeIn C.K cdv qual = true) (hroom : A.depth < recursionLimit)
    (hbind : ∀ u1 : Value, bindArgs (fnOf name qual params body scope dV kV doc pm an cdv ct) ⟨[u1], []⟩ = pure [(x1, u1)]) (nd : ([x1] : List Str).Nodup)
    (hkind : (([x1] : List Str).all fun y => scope.names.lookup y == some .local || scope.names.lookup y == some .cell) = true) (hsc : scopeOk scope = true) (hco : scope.isCoroutine = false) (hgen : scope.isGenerator = false) (hk : scope.kind = .function)
    (h : ∀ L A', A'.handled = A.handled → A'.depth = A.depth + 1 → A'.units = A.units + 3 → Exs C A' (mkE scope L (cellsFrom (L + 1) scope.names []) (qual ++ ".<locals>.") (some f) cdv (some L)) body [(x1, v1)] σ (fun g _ σ' => Q g.val σ') (fun _ _ => False)) :
    CallWP C A (.ref f) [v1] σ Q X :=
  CallWP.def [x1] (args := [v1]) ho hcd hroom (fun vals hl => by obtain ⟨u1, t1, rfl, h1⟩ := lenS hl; obtain rfl := List.eq_nil_of_length_eq_zero h1; exact hbind u1) nd hkind hsc hco hgen hk h
theorem CallWP.def2 (x1 x2 : Str) {f : Addr} {name qual : Str} {params : Arguments} {body : List Stmt} {scope : Scope} {dV kV doc pm cdv ct oc : Value} {an od : Option Addr} {osl : Array (Option Value)} {v1 v2 : V} {Q : V → Store → Prop}
    (ho : C.K.lookup f = some ⟨oc, od, .func (fnOf name qual params body scope dV kV doc pm an cdv ct), osl⟩) (hcd : codeIn C.K cdv qual = true) (hroom : A.depth < recursionLimit)
    (hbind : ∀ u1 u2 : Value, bindArgs (fnOf name qual params body scope dV kV doc pm an cdv ct) ⟨[u1, u2], []⟩ = pure [(x1, u1), (x2, u2)]) (nd : ([x1, x2] : List Str).Nodup)
    (hkind : (([x1, x2] : List Str).all fun y => scope.names.lookup y == some .local || scope.names.lookup y == some .cell) = true) (hsc : scopeOk scope = true) (hco : scope.isCoroutine = false) (hgen : scope.isGenerator = false) (hk : scope.kind = .function)
    (h : ∀ L A', A'.handled = A.handled → A'.depth = A.depth + 1 → A'.units = A.units + 3 → Exs C A' (mkE scope L (cellsFrom (L + 1) scope.names []) (qual ++ ".<locals>.") (some f) cdv (some L)) body [(x1, v1), (x2, v2)] σ (fun g _ σ' => Q g.val σ') (fun _ _ => False)) :
    CallWP C A (.ref f) [v1, v2] σ Q X :=
  CallWP.def [x1, x2] (args := [v1, v2]) ho hcd hroom (fun vals hl => by obtain ⟨u1, t1, rfl, h1⟩ := lenS hl; obtain ⟨u2, t2, rfl, h2⟩ := lenS h1; obtain rfl := List.eq_nil_of_length_eq_zero h2; exact hbind u1 u2) nd hkind hsc hco hgen hk h
theorem CallWP.def3 (x1 x2 x3 : Str) {f : Addr} {name qual : Str} {params : Arguments} {body : List Stmt} {scope : Scope} {dV kV doc pm cdv ct oc : Value} {an od : Option Addr} {osl : Array (Option Value)} {v1 v2 v3 : V} {Q : V → Store → Prop}
    (ho : C.K.lookup f = some ⟨oc, od, .func (fnOf name qual params body scope dV kV doc pm an cdv ct), osl⟩) (hcd : codeIn C.K cdv qual = true) (hroom : A.depth < recursionLimit)
    (hbind : ∀ u1 u2 u3 : Value, bindArgs (fnOf name qual params body scope dV kV doc pm an cdv ct) ⟨[u1, u2, u3], []⟩ = pure [(x1, u1), (x2, u2), (x3, u3)]) (nd : ([x1, x2, x3] : List Str).Nodup)
    (hkind : (([x1, x2, x3] : List Str).all fun y => scope.names.lookup y == some .local || scope.names.lookup y == some .cell) = true) (hsc : scopeOk scope = true) (hco : scope.isCoroutine = false) (hgen : scope.isGenerator = false) (hk : scope.kind = .function)
    (h : ∀ L A', A'.handled = A.handled → A'.depth = A.depth + 1 → A'.units = A.units + 3 → Exs C A' (mkE scope L (cellsFrom (L + 1) scope.names []) (qual ++ ".<locals>.") (some f) cdv (some L)) body [(x1, v1), (x2, v2), (x3, v3)] σ (fun g _ σ' => Q g.val σ') (fun _ _ => False)) :
    CallWP C A (.ref f) [v1, v2, v3] σ Q X :=
  CallWP.def [x1, x2, x3] (args := [v1, v2, v3]) ho hcd hroom (fun vals hl => by obtain ⟨u1, t1, rfl, h1⟩ := lenS hl; obtain ⟨u2, t2, rfl, h2⟩ := lenS h1; obtain ⟨u3, t3, rfl, h3⟩ := lenS h2; obtain rfl := List.eq_nil_of_length_eq_zero h3; exact hbind u1 u2 u3) nd hkind hsc hco hgen hk h
end
end Mine

set_option autoImplicit false
set_option linter.unusedVariables false
namespace Mine
open PySem PySem.W PySem.SeqAt PyProof.Rows

theorem Rho.gp_hit {x : Str} {v : V} {r : Rho} : Rho.get (Rho.put r x v) x = some v := by rw [Rho.get_put]; simp
theorem Rho.gp_miss {x y : Str} {v : V} {u : Option V} {r : Rho} (h : y ≠ x) (k : Rho.get r y = u) : Rho.get (Rho.put r x v) y = u := by rw [Rho.get_put, if_neg h, k]

section
variable {C : Cx} {A : Around} {env : Env} {ρ : Rho} {σ : Store} {X : XP} {s : Shared}

/- {"a": .., "b": ..} -/
inductive KVR (h : Heap) : List (Value × Value) → List (Str × V) → Prop
  | nil : KVR h [] []
  | cons {k : Str} {t : Tok} {v : Value} {x : V} {r : List (Value × Value)} {r' : List (Str × V)} : VR h v x → KVR h r r' → KVR h ((.str k t, v) :: r) ((k, x) :: r')
def Prs (C : Cx) (A : Around) (env : Env) (pos : Pos) (ks : List (Option Expr)) (vs : List Expr) (ρ : Rho) (σ : Store) (Q : List (Str × V) → Store → Prop) (X : XP) : Prop :=
  ∀ s, St C σ s → Fm C σ s.heap env ρ → wpAny C.M A (evalPairs (pairTrees ks vs env pos)) (fun r s' => ∃ xs σ', Q xs σ' ∧ KVR s'.heap r xs ∧ St C σ' s' ∧ Evo σ s.heap σ' s'.heap) X s
/- pop() -/
theorem CallWP.pop {l : Addr} {xs : List V} {y : V} {Q : V → Store → Prop} (hl : σ l = some (.list (xs ++ [y]))) (hz : xs.length < sizeLine)
    (h : Q y (σ.upd l (.list xs))) : CallWP C A (.builtin "list.pop") [.ref l] σ Q X := by
  intro s vs S r
  obtain ⟨_, rfl, r1⟩ := r.one
  obtain rfl := r1.refI
  obtain ⟨items, ⟨n, e⟩, rl⟩ := S.rep _ _ hl
  have el := rl.length
  simp only [Array.length_toList, List.length_append, List.length_singleton] at el
  have hj : (xs ++ [y])[xs.length]? = some y := by simp
  obtain ⟨u, hu, ru⟩ := rl.get hj
  have hu' : items[items.size - 1]? = some u := by rw [el]; simpa using hu
  refine call_meets F.slot_list_pop ⟨_, e, rfl⟩ F.entry_list_pop (F.args_list_pop_1 _) (MeetsSeq.list_pop_last l items n u hu' (by (first | lia | omega))) ⟨e, ?_⟩
  obtain ⟨S', e'⟩ := upd_list (f := fun x => x.eraseIdxIfInBounds (items.size - 1)) S hl e (ys := xs) (by
    have hj' : items.size - 1 < items.size := by (first | lia | omega)
    have : (items.eraseIdxIfInBounds (items.size - 1)).toList = items.toList.eraseIdx (items.size - 1) := by
      simp [Array.eraseIdxIfInBounds, hj', Array.toList_eraseIdx]
    rw [this, el]
    have := rl.erase xs.length
    have e2 : (xs ++ [y]).eraseIdx xs.length = xs := by rw [List.eraseIdx_append_of_length_le (Nat.le_refl _)]; simp
    rw [e2] at this; simpa using this)
  exact ⟨y, _, h, ru.mono e'.tup, S', e'⟩

/- all(), any() over a list of truths -/
theorem kept_it {h' : Heap} {o : Obj} (hk : ∀ b x, b ∉ [s.heap.objs.size] → (s.heap.push o).get? b = some x → h'.get? b = some x) : ∀ b x, s.heap.get? b = some x → h'.get? b = some x :=
  fun b x e => hk b x (fun hm => by rw [List.mem_singleton.mp hm] at e; exact Nat.lt_irrefl _ (Heap.lt_size e)) (Heap.get?_push_of_some _ e)
theorem bools_get {h : Heap} {vs : List Value} {bs : List Bool} (r : VRs h vs (bs.map V.bool)) {i : Nat} {v : Value} (e : vs[i]? = some v) : ∃ b, bs[i]? = some b ∧ v = .bool b := by
  have hl := r.length
  have : i < vs.length := (List.getElem?_eq_some_iff.mp e).1
  have hb : i < bs.length := by simpa [hl] using this
  obtain ⟨u, hu, ru⟩ := r.get (show (bs.map V.bool)[i]? = some (V.bool bs[i]) by simp [hb])
  rw [hu] at e; cases e
  cases ru
  exact ⟨bs[i], by simp [hb], rfl⟩
theorem CallWP.all {l : Addr} {bs : List Bool} {Q : V → Store → Prop} (hh : A.handled = none) (hl : LstAt C σ l (bs.map V.bool)) (h : Q (.bool (bs.all id)) σ) : CallWP C A (.builtin "all") [.ref l] σ Q X := by
  intro s vs S r
  obtain ⟨_, rfl, r1⟩ := r.one
  obtain rfl := r1.refI
  obtain ⟨items, il, rl⟩ := hl.raw S
  have el := rl.length
  simp only [Array.length_toList, List.length_map] at el
  have hlt : l < s.heap.objs.size := by obtain ⟨_, e, _⟩ := il; exact Heap.lt_size e
  refine call_all_walk (wpAny_pyIter_list il ?_)
  refine ⟨s.heap.objs.size, [s.heap.objs.size, l], [s.heap.objs.size], items.size, _, _, fun i => (bs[i]?).getD true, rfl, Walks.list (A := A.in1) hh _ l (Nat.ne_of_lt hlt) items,
    ⟨⟨_, Heap.get?_push_size _ rfl, rfl, rfl⟩, il.push _⟩, fun i v s' Q' E' hP hQ => ?_, fun h' tk hk => ?_⟩
  · obtain ⟨b, e, rfl⟩ := bools_get rl (by simpa using hP)
    simp only [e, Option.getD_some] at hQ
    exact wpAny_truthy_bool hQ
  · have e : ((List.range items.size).all fun i => (bs[i]?).getD true) = bs.all id := by
      rw [el]; exact PyProof.Rows.LSm.range_all bs
    rw [e]
    exact ⟨_, σ, h, .bool _, S.ext (kept_it hk), .ext (kept_it hk)⟩
theorem small_le {n : Nat} (h : Nat.ble n sizeLine = true) : n ≤ sizeLine := Nat.le_of_ble_eq_true h
theorem Szs.mk {xs : List V} {P : Prop} (h : xs.length ≤ sizeLine) (k : P) : xs.length ≤ sizeLine ∧ P := ⟨h, k⟩
theorem Br.t {b : Bool} {p q : Prop} (hb : b = true) (h : p) : if b = true then p else q := by rw [if_pos hb]; exact h
theorem Br.f {b : Bool} {p q : Prop} (hb : b = false) (h : q) : if b = true then p else q := by rw [if_neg (by simp [hb])]; exact h
theorem ItemWP.tup0 {x : V} {xs : List V} {Q : V → Store → Prop} (h : Q x σ) : ItemWP C A (.tup (x :: xs)) (.int 0) σ Q X :=
  ItemWP.tup (j := 0) (by decide) (by decide) (by rw [seqIndex_of (by (first | lia | omega)) (by simp)]; rfl) rfl h
theorem ItemWP.tup1 {x y : V} {xs : List V} {Q : V → Store → Prop} (h : Q x σ) : ItemWP C A (.tup (y :: x :: xs)) (.int 1) σ Q X :=
  ItemWP.tup (j := 1) (by decide) (by decide) (by rw [seqIndex_of (by (first | lia | omega)) (by simp; (first | lia | omega))]; rfl) rfl h
theorem ItemWP.tup2 {x y z : V} {xs : List V} {Q : V → Store → Prop} (h : Q x σ) : ItemWP C A (.tup (y :: z :: x :: xs)) (.int 2) σ Q X :=
  ItemWP.tup (j := 2) (by decide) (by decide) (by rw [seqIndex_of (by (first | lia | omega)) (by simp; (first | lia | omega))]; rfl) rfl h
theorem ItemWP.tup3 {x y z u : V} {xs : List V} {Q : V → Store → Prop} (h : Q x σ) : ItemWP C A (.tup (y :: z :: u :: x :: xs)) (.int 3) σ Q X :=
  ItemWP.tup (j := 3) (by decide) (by decide) (by rw [seqIndex_of (by (first | lia | omega)) (by simp; (first | lia | omega))]; rfl) rfl h
theorem ItemWP.tup4 {x y z u w : V} {xs : List V} {Q : V → Store → Prop} (h : Q x σ) : ItemWP C A (.tup (y :: z :: u :: w :: x :: xs)) (.int 4) σ Q X :=
  ItemWP.tup (j := 4) (by decide) (by decide) (by rw [seqIndex_of (by (first | lia | omega)) (by simp; (first | lia | omega))]; rfl) rfl h
theorem ItemWP.last {l : Addr} {xs : List V} {y : V} {Q : V → Store → Prop} (hl : LstAt C σ l (xs ++ [y])) (h : Q y σ) : ItemWP C A (.ref l) (.int (-1)) σ Q X :=
  ItemWP.listNeg hl (by decide) (by simp; (first | lia | omega)) (by decide) (by
    have : ((-1 : Int) + ((xs ++ [y]).length : Int)).toNat = xs.length := by simp; (first | lia | omega)
    rw [this]; simp) h
end
end Mine

set_option autoImplicit false
set_option linter.unusedVariables false
namespace Mine
open PySem PySem.W PySem.SeqAt PyProof.Rows

/- stores -/
def Grow (σ σ' : Store) : Prop := ∀ b o, σ b = some o → σ' b = some o
theorem Grow.rfl' {σ : Store} : Grow σ σ := fun _ _ e => e
theorem Grow.trans {σ1 σ2 σ3 : Store} (a : Grow σ1 σ2) (b : Grow σ2 σ3) : Grow σ1 σ3 := fun x o e => b x o (a x o e)
theorem Store.hit {σ : Store} {a : Addr} {o : O} : (σ.upd a o) a = some o := by simp [Store.upd]
theorem Store.miss {σ : Store} {a b : Addr} {o : O} {r : Option O} (h : b ≠ a) (k : σ b = r) : (σ.upd a o) b = r := by simp [Store.upd, h, k]
theorem Store.at_fresh {σ : Store} {a b : Addr} {o o' : O} (h : σ a = none) (k : σ b = some o') : (σ.upd a o) b = some o' := Store.miss (fun e => by rw [e, h] at k; cases k) k
theorem Grow.fresh {σ σ' : Store} {a : Addr} {o : O} (g : Grow σ σ') (h : σ' a = none) : Grow σ (σ'.upd a o) := fun b o' e => Store.at_fresh h (g b o' e)
theorem Grow.upd {σ σ' : Store} {a : Addr} {o : O} (g : Grow σ σ') (h : σ a = none) : Grow σ (σ'.upd a o) := fun b o' e => Store.miss (fun q => by rw [q, h] at e; cases e) (g b o' e)
theorem Grow.none {σ σ' : Store} {a : Addr} (g : Grow σ σ') (h : σ' a = none) : σ a = none := by
  cases q : σ a with
  | none => rfl
  | some o => rw [g a o q] at h; cases h

section
variable {C : Cx} {A : Around} {env : Env} {ρ : Rho} {σ : Store} {X : XP} {s : Shared}
theorem Asg.mono {t : Expr} {x : V} {Q Q' : Rho → Store → Prop} (h : Asg C A env t x ρ σ Q X) (k : ∀ ρ σ, Q ρ σ → Q' ρ σ) : Asg C A env t x ρ σ Q' X := by
  intro s v S F r
  refine wpAny_mono (h s v S F r) ?_ fun _ _ z => z
  rintro _ s1 ⟨ρ1, σ1, q, rest⟩
  exact ⟨ρ1, σ1, k _ _ q, rest⟩

theorem TyGo.mk {x : V} {T : String} {P : Prop} (h : TyV C σ x T) (k : P) : TyV C σ x T ∧ P := ⟨h, k⟩
theorem Eqs.mk {x y : V} {P : Prop} (h : x = y) (k : P) : x = y ∧ P := ⟨h, k⟩
theorem LstAt.st {l : Addr} {xs : List V} (h : σ l = some (.list xs)) : LstAt C σ l xs := .inl h
/-- what a loop's body owes -/
def LpQ (ok : Store → Prop) (J : Rho → Store → Prop) (Q : FV → Rho → Store → Prop) (g : FV) (ρ : Rho) (σ : Store) : Prop :=
  match g with
  | .next | .cont => ok σ ∧ J ρ σ
  | .brk => Q .next ρ σ
  | .ret v => Q (.ret v) ρ σ
theorem LpQ.n {ok : Store → Prop} {J : Rho → Store → Prop} {Q : FV → Rho → Store → Prop} (h : ok σ ∧ J ρ σ) : LpQ ok J Q .next ρ σ := h
theorem LpQ.r {ok : Store → Prop} {J : Rho → Store → Prop} {Q : FV → Rho → Store → Prop} {v : V} (h : Q (.ret v) ρ σ) : LpQ ok J Q (.ret v) ρ σ := h

theorem ForL.inv {α : Type} {target : Expr} {body : List Stmt} {ok : Store → Prop} {Q : FV → Rho → Store → Prop} (enc : α → V) (I : List α → Rho → Store → Prop)
    (step : ∀ x xs ρ σ, I (x :: xs) ρ σ → Asg C A env target (enc x) ρ σ (fun ρ1 σ1 => Exs C A env body ρ1 σ1 (LpQ ok (I xs) Q) (fun _ _ => False)) (fun _ _ => False))
    (done : ∀ ρ σ, I [] ρ σ → Q .next ρ σ) : ∀ xs ρ σ, I xs ρ σ → ForL C A env target body ok Q (xs.map enc) ρ σ
  | [], ρ, σ, h => done ρ σ h
  | x :: xs, ρ, σ, h => by
    refine (step x xs ρ σ h).mono fun ρ1 σ1 h1 => h1.mono fun g ρ2 σ2 h2 => ?_
    cases g with
    | next => exact ⟨h2.1, ForL.inv enc I step done xs ρ2 σ2 h2.2⟩
    | cont => exact ⟨h2.1, ForL.inv enc I step done xs ρ2 σ2 h2.2⟩
    | brk => exact h2
    | ret v => exact h2

theorem Ev.mono' {e : Expr} {Q Q' : V → Store → Prop} (h : Ev C A env e ρ σ Q X) (k : ∀ x σ, Q x σ → Q' x σ) : Ev C A env e ρ σ Q' X := by
  intro s S F
  refine wpAny_mono (h s S F) ?_ fun _ _ z => z
  rintro _ s1 ⟨x, σ1, q, r1, r2, r3⟩
  exact ⟨x, σ1, k _ _ q, r1, r2, r3⟩
theorem CmpL.inv {α : Type} {x : Str} {elt : Expr} {ok : Store → Prop} {R : List V → Store → Prop} (enc : α → V) (I : List α → List V → Store → Prop)
    (step : ∀ y ys out σ, I (y :: ys) out σ → Ev C A env elt (ρ.put x (enc y)) σ (fun z σ2 => out.length ≤ sizeLine ∧ ok σ2 ∧ I ys (out ++ [z]) σ2) (fun _ _ => False))
    (done : ∀ out σ, I [] out σ → R out σ) : ∀ ys out σ, I ys out σ → CmpL C A env x [] elt ok ρ R (ys.map enc) out σ
  | [], out, σ, h => done out σ h
  | y :: ys, out, σ, h => by
    unfold CmpL
    exact Ifs.nil ((step y ys out σ h).mono' fun z σ2 h2 => ⟨h2.1, h2.2.1, CmpL.inv enc I step done ys _ σ2 h2.2.2⟩)
end
end Mine

set_option autoImplicit false
set_option linter.unusedVariables false
namespace Mine
open PySem PySem.W PySem.SeqAt PyProof.Rows

/- texts: their length and their code points -/
theorem strOk_iff {x : Str} : PySem.PyData.strOk x = true ↔ ∀ c ∈ x.cps.toList, c < 0x110000 := by
  unfold PySem.PyData.strOk
  rw [Array.all_eq_true_iff_forall_mem]
  simp
theorem strOk_ofString (s : String) : PySem.PyData.strOk (Str.ofString s) = true := by
  rw [strOk_iff]
  intro c hc
  rw [Str.ofString_eq_toList] at hc
  simp only [List.mem_map, List.toList_toArray] at hc
  obtain ⟨d, _, rfl⟩ := hc
  have := d.valid
  simp only [UInt32.isValidChar, Nat.isValidChar] at this
  simp only [Char.toNat]
  (first | lia | omega)
end Mine

namespace Mine
open PySem PySem.W PySem.SeqAt PyProof.Rows
section
variable {C : Cx} {A : Around} {σ : Store} {X : XP}
theorem sget_hit {x : Str} {v : V} {r : List (Str × V)} : sget ((x, v) :: r) x = some v := by simp [sget]
theorem sget_miss {x y : Str} {u : V} {v : Option V} {r : List (Str × V)} (h : x ≠ y) (k : sget r x = v) : sget ((y, u) :: r) x = v := by
  subst k; have h' : ¬ y = x := fun e => h e.symm
  simp [sget, h']
theorem CallWP.range1 {n : Int} {Q : V → Store → Prop} (h : Q (.rng 0 n) σ) : CallWP C A (.type "range") [.int n] σ Q X := by
  intro s vs S r
  obtain ⟨_, rfl, r1⟩ := r.one
  obtain ⟨_, rfl⟩ := r1.intI
  exact call_range_1 ⟨.rng 0 n, σ, h, .rng (IsRange.new _ _ _ _ _ _ _), S.push, .push⟩
theorem intMul_r {a b : Int} (h1 : -(2 ^ 64) < b) (h2 : b < 2 ^ 64) : IntMulOk a b := IntMulOk.of_right (intBits_le_64 h1 h2)
end
end Mine

set_option autoImplicit false
set_option linter.unusedVariables false
namespace Mine
open PySem PySem.W PySem.SeqAt PyProof.Rows
section
variable {C : Cx} {A : Around} {σ : Store} {X : XP}
/- plain data -/
theorem DRs.map {α : Type} {f : α → V} {g : α → PyData} : ∀ {xs : List α}, (∀ x ∈ xs, DR C σ (f x) (g x)) → DRs C σ (xs.map f) (xs.map g)
  | [], _ => .nil
  | x :: xs, h => .cons (h x (.head _)) (DRs.map fun y hy => h y (.tail _ hy))
theorem canLayAll_map {α : Type} {g : α → PyData} : ∀ {xs : List α}, (∀ x ∈ xs, (g x).canLay0 = true) → PyData.canLayAll0 (xs.map g) = true
  | [], _ => by simp [PyData.canLayAll0]
  | x :: xs, h => by simp [PyData.canLayAll0, h x (.head _), canLayAll_map fun y hy => h y (.tail _ hy)]
theorem depthAll_map {α : Type} {g : α → PyData} {k : Nat} : ∀ {xs : List α}, (∀ x ∈ xs, (g x).depth ≤ k) → PyData.depthAll (xs.map g) ≤ k
  | [], _ => by simp [PyData.depthAll]
  | x :: xs, h => by
    have h1 := h x (.head _)
    have h2 := depthAll_map (xs := xs) fun y hy => h y (.tail _ hy)
    simp only [List.map_cons, PyData.depthAll]; (first | lia | omega)
theorem CmpWP.eqSame {x y : V} {d : PyData} {Q : V → Store → Prop} (hx : DR C σ x d) (hy : DR C σ y d) (h1 : d.canLay0 = true) (hu : A.units + d.depth < cLine) (h : Q (.bool true) σ) : CmpWP C A .Eq x y σ Q X :=
  CmpWP.eq hx hy h1 h1 (by (first | lia | omega)) (by rw [eqv_refl d h1]; exact h)
theorem CmpWP.neSame {x y : V} {d : PyData} {Q : V → Store → Prop} (hx : DR C σ x d) (hy : DR C σ y d) (h1 : d.canLay0 = true) (hu : A.units + d.depth < cLine) (h : Q (.bool false) σ) : CmpWP C A .NotEq x y σ Q X :=
  CmpWP.ne hx hy h1 h1 (by (first | lia | omega)) (by rw [eqv_refl d h1]; exact h)
theorem isi_t {x : V} {t : Ty} {U : String} {Q : V → Store → Prop} (ht : HasTy C σ x t) (hU : (U = "int" ∨ U = "bool" ∨ U = "str" ∨ U = "list" ∨ U = "tuple")) {b : Bool} (hb : isiB t U = b) (h : Q (.bool b) σ) : CallWP C A (.builtin "isinstance") [x, .typ U] σ Q X :=
  CallWP.isi ht hU (by rw [hb]; exact h)
end
end Mine

set_option autoImplicit false
set_option linter.unusedVariables false
namespace Mine
open PySem PySem.W PySem.SeqAt PyProof.Rows
section
variable {C : Cx} {A : Around} {env : Env} {ρ : Rho} {σ : Store} {X : XP} {s : Shared}
/- a, b, c = x, y, z -/
def AsgN (C : Cx) (A : Around) (env : Env) (ns : List Str) (xs : List V) (ρ : Rho) (σ : Store) (Q : Rho → Store → Prop) (X : XP) : Prop :=
  ∀ s vs, St C σ s → Fm C σ s.heap env ρ → VRs s.heap vs xs → wpAny C.M A (assignInOrder (ns.map fun n => bindName env n) vs) (fun _ s' => ∃ ρ' σ', Q ρ' σ' ∧ St C σ' s' ∧ Fm C σ' s'.heap env ρ' ∧ EvoF env σ s.heap σ' s'.heap) X s
theorem Store.none_ne {σ : Store} {a b : Addr} {o : O} (h : (σ.upd b o) a = none) : a ≠ b ∧ σ a = none := by
  by_cases q : a = b
  · subst q; simp [Store.upd] at h
  · exact ⟨q, by simpa [Store.upd, q] using h⟩
end
end Mine

namespace Mine
open PySem PySem.W
section
variable {C : Cx} {A : Around} {env : Env} {ρ : Rho} {σ : Store} {X : XP}
end
end Mine

set_option autoImplicit false
set_option linter.unusedVariables false
namespace Mine
open PySem PySem.W
/- which kind of goal stands: one quick look each -/
section
variable {C : Cx} {A : Around} {env : Env} {ρ : Rho} {σ : Store} {X : XP}
theorem is.ev {e : Expr} {Q : V → Store → Prop} (h : Ev C A env e ρ σ Q X) : Ev C A env e ρ σ Q X := h
theorem is.tst {e : Expr} {Q : Bool → Store → Prop} (h : Tst C A env e ρ σ Q X) : Tst C A env e ρ σ Q X := h
theorem is.ex {e : Stmt} {Q : FV → Rho → Store → Prop} (h : Ex C A env e ρ σ Q X) : Ex C A env e ρ σ Q X := h
theorem is.exs {e : List Stmt} {Q : FV → Rho → Store → Prop} (h : Exs C A env e ρ σ Q X) : Exs C A env e ρ σ Q X := h
theorem is.thn {e : List Stmt} {Q : FV → Rho → Store → Prop} {g : FV} (h : Then C A env e Q X g ρ σ) : Then C A env e Q X g ρ σ := h
theorem is.asg {e : Expr} {x : V} {Q : Rho → Store → Prop} (h : Asg C A env e x ρ σ Q X) : Asg C A env e x ρ σ Q X := h
theorem is.cmp {o : CmpOp} {x y : V} {Q : V → Store → Prop} (h : CmpWP C A o x y σ Q X) : CmpWP C A o x y σ Q X := h
theorem is.bin {o : Operator} {x y : V} {Q : V → Store → Prop} (h : BinWP C A o x y σ Q X) : BinWP C A o x y σ Q X := h
theorem is.call {f : Value} {xs : List V} {Q : V → Store → Prop} (h : CallWP C A f xs σ Q X) : CallWP C A f xs σ Q X := h
theorem is.item {x y : V} {Q : V → Store → Prop} (h : ItemWP C A x y σ Q X) : ItemWP C A x y σ Q X := h
theorem is.lp {ok : Store → Prop} {J : Rho → Store → Prop} {Q : FV → Rho → Store → Prop} {g : FV} (h : LpQ ok J Q g ρ σ) : LpQ ok J Q g ρ σ := h
theorem is.tru {x : V} {Q : Bool → Store → Prop} (h : TruWP C A x σ Q X) : TruWP C A x σ Q X := h
theorem is.ags {pos : Pos} {es : List Expr} {Q : List V → Store → Prop} (h : Ags C A env pos es ρ σ Q X) : Ags C A env pos es ρ σ Q X := h
end
end Mine

set_option autoImplicit false
set_option linter.unusedVariables false
namespace Mine
open PySem PySem.W PyProof.Rows

/- the sort's questions answered by a weak order: its answer is sorted and stable -/
structure SWO (lt : Nat → Nat → Bool) : Prop where
  irr : ∀ i, lt i i = false
  tr : ∀ i j k, lt i j = true → lt j k = true → lt i k = true
  nt : ∀ i j k, lt i j = false → lt j k = false → lt i k = false
def slt (lt : Nat → Nat → Bool) (i j : Nat) : Prop := lt i j = true ∨ (lt j i = false ∧ i < j)
section
variable {lt : Nat → Nat → Bool}
theorem SWO.asym (W : SWO lt) {i j : Nat} (h : lt i j = true) : lt j i = false := by
  cases q : lt j i with
  | false => rfl
  | true => have := W.tr i j i h q; rw [W.irr] at this; cases this
theorem SWO.l1 (W : SWO lt) {i j k : Nat} (h : lt i j = true) (n : lt k j = false) : lt i k = true := by
  cases q : lt i k with
  | true => rfl
  | false => rw [W.nt i k j q n] at h; cases h
theorem SWO.l2 (W : SWO lt) {i j k : Nat} (n : lt j i = false) (h : lt j k = true) : lt i k = true := by
  cases q : lt i k with
  | true => rfl
  | false => rw [W.nt j i k n q] at h; cases h
theorem slt.not (W : SWO lt) {i j : Nat} (h : slt lt i j) : lt j i = false := by
  rcases h with h | h
  · exact W.asym h
  · exact h.1
theorem slt.trans (W : SWO lt) {i j k : Nat} (a : slt lt i j) (b : slt lt j k) : slt lt i k := by
  rcases a with a | ⟨a, a'⟩ <;> rcases b with b | ⟨b, b'⟩
  · exact .inl (W.tr _ _ _ a b)
  · exact .inl (W.l1 a b)
  · exact .inl (W.l2 a b)
  · exact .inr ⟨W.nt _ _ _ b a, Nat.lt_trans a' b'⟩
def Srt (lt : Nat → Nat → Bool) (p : Nat → Nat) (n : Nat) : Prop := ∀ i j, i < j → j < n → slt lt (p i) (p j)
theorem Srt.ext (W : SWO lt) {p : Nat → Nat} {n : Nat} (h : Srt lt p n) (h1 : 1 ≤ n) (k : slt lt (p (n - 1)) (p n)) : Srt lt p (n + 1) := by
  intro i j hij hj
  by_cases q : j < n
  · exact h i j hij q
  · have : j = n := by (first | lia | omega)
    subst this
    by_cases q : i = j - 1
    · subst q; exact k
    · exact (h i (j - 1) (by (first | lia | omega)) (by (first | lia | omega))).trans W k
structure Idn (p : Nat → Nat) (n N : Nat) : Prop where
  rest : ∀ k, n ≤ k → k < N → p k = k
  low : ∀ k, k < n → p k < n
theorem Idn.succ {p : Nat → Nat} {n N : Nat} (I : Idn p n N) (h : n < N) : Idn p (n + 1) N :=
  ⟨fun k a b => I.rest k (by (first | lia | omega)) b, fun k a => by
    by_cases q : k < n
    · have := I.low k q; (first | lia | omega)
    · have : k = n := by (first | lia | omega)
      subst this; rw [I.rest k (Nat.le_refl _) h]; (first | lia | omega)⟩
theorem Idn.mono {p : Nat → Nat} {n N : Nat} (I : Idn p n N) : ∀ m, n ≤ m → m ≤ N → Idn p m N := by
  intro m h1 h2
  induction m with
  | zero => have : n = 0 := by (first | lia | omega)
            subst this; exact I
  | succ m ih =>
    by_cases q : n = m + 1
    · subst q; exact I
    · exact (ih (by (first | lia | omega)) (by (first | lia | omega))).succ (by (first | lia | omega))
abbrev fn (P : Array Nat) (k : Nat) : Nat := P.getD k 0
theorem fn_get (P : Array Nat) (k : Nat) : fn P k = (P[k]?).getD 0 := by simp [fn]
theorem fn_rev {P : Array Nat} {i j : Nat} (hj : j ≤ P.size) (k : Nat) : fn (kas_rev P i j) k = if i ≤ k ∧ k < j then fn P (i + j - 1 - k) else fn P k := by
  rw [fn_get]; unfold kas_rev; rw [getElem?_mirror_all hj]
  split <;> rw [fn_get]
theorem fn_bubble {P : Array Nat} {k d : Nat} (hk : k < P.size) (hd : d ≤ k) (i : Nat) : fn (bubble P k d) i = if i = k - d then fn P k else if k - d < i ∧ i ≤ k then fn P (i - 1) else fn P i := by
  rw [fn_get, fn_get, fn_get, fn_get, getElem?_bubble hk d hd]
  split
  · rfl
  · split <;> rfl
theorem rev_size (P : Array Nat) (i j : Nat) : (kas_rev P i j).size = P.size := mirror_size _ _ _ _
theorem rev_perm (P : Array Nat) (i j : Nat) : (kas_rev P i j).Perm P := mirror_perm _ _ _ _

variable {cmp : Nat → Nat → (Bool → Shared → Prop) → Shared → Prop} {s : Shared} {N : Nat}
/-- P: the array's state -/
structure PA (P : Array Nat) (N : Nat) : Prop where
  sz : P.size = N
  pm : P.toList.Perm (List.range N)
theorem PA.rev {P : Array Nat} (h : PA P N) (i j : Nat) : PA (kas_rev P i j) N := ⟨(rev_size _ _ _).trans h.sz, ((rev_perm P i j).toList).trans h.pm⟩
theorem PA.bub {P : Array Nat} (h : PA P N) (i j : Nat) : PA (bubble P i j) N := ⟨(bubble_size _ _ _).trans h.sz, ((bubble_perm P i j).toList).trans h.pm⟩
theorem PA.bnd {P : Array Nat} (h : PA P N) {k : Nat} (hk : k < N) : fn P k < N := by
  have hk' : k < P.size := by rw [h.sz]; exact hk
  have : fn P k ∈ P.toList := by
    have e : fn P k = P[k] := by simp [fn, Array.getD, hk']
    rw [e]; exact Array.getElem_mem_toList hk'
  have := h.pm.mem_iff.mp this
  simpa using this

theorem asc_ok (W : SWO lt) (hc : ∀ i j C, i < N → j < N → C (lt i j) s → cmp i j C s) {P : Array Nat} (hP : PA P N) {Q : Nat → Shared → Prop} : ∀ f n, n + f = N → 1 ≤ n → Srt lt (fn P) n → Idn (fn P) n N →
    (∀ m, n ≤ m → m ≤ N → Srt lt (fn P) m → (m < N → lt (fn P m) (fn P (m - 1)) = true) → Q m s) → (kas_asc P f n).kasWp cmp Q s
  | 0, n, hn, h1, hs, hi, h => h n (Nat.le_refl _) (by (first | lia | omega)) hs (fun q => by (first | lia | omega))
  | f + 1, n, hn, h1, hs, hi, h => by
    refine hc _ _ _ (hP.bnd (by (first | lia | omega))) (hP.bnd (by (first | lia | omega))) ?_
    cases q : lt (P.getD n 0) (P.getD (n - 1) 0) with
    | true => exact h n (Nat.le_refl _) (by (first | lia | omega)) hs fun _ => q
    | false =>
      refine asc_ok W hc hP f (n + 1) (by (first | lia | omega)) (by (first | lia | omega)) (hs.ext W h1 (.inr ⟨q, ?_⟩)) (hi.succ (by (first | lia | omega))) fun m a b c d => h m (by (first | lia | omega)) b c d
      rw [hi.rest n (Nat.le_refl _) (by (first | lia | omega))]
      exact hi.low _ (by (first | lia | omega))

/-- falling so far, the last run of equals apart -/
structure Dsc (lt : Nat → Nat → Bool) (p : Nat → Nat) (b n : Nat) : Prop where
  i1 : ∀ i j, i < j → j < b → slt lt (p j) (p i)
  i2 : ∀ i j, i < b → b ≤ j → j < n → lt (p j) (p i) = true
  i3 : ∀ i j, b ≤ i → i < j → j < n → p i < p j ∧ lt (p i) (p j) = false ∧ lt (p j) (p i) = false
theorem Dsc.turn (W : SWO lt) {p p1 : Nat → Nat} {b n : Nat} (h : Dsc lt p b n) (hb : b < n) (e : ∀ k, p1 k = if b ≤ k ∧ k < n then p (b + n - 1 - k) else p k) : ∀ i j, i < j → j < n → slt lt (p1 j) (p1 i) := by
  intro i j hij hj
  rw [e, e]
  by_cases q : b ≤ j
  · rw [if_pos ⟨q, hj⟩]
    by_cases q2 : b ≤ i
    · rw [if_pos ⟨q2, by (first | lia | omega)⟩]
      obtain ⟨a, b', c⟩ := h.i3 (b + n - 1 - j) (b + n - 1 - i) (by (first | lia | omega)) (by (first | lia | omega)) (by (first | lia | omega))
      exact .inr ⟨c, a⟩
    · rw [if_neg (by (first | lia | omega))]
      exact .inl (h.i2 i _ (by (first | lia | omega)) (by (first | lia | omega)) (by (first | lia | omega)))
  · rw [if_neg (by (first | lia | omega)), if_neg (by (first | lia | omega))]
    exact h.i1 i j hij (by (first | lia | omega))
theorem Dsc.next (W : SWO lt) {p p1 : Nat → Nat} {b n : Nat} (h : Dsc lt p b n) (hb : b < n) (e : ∀ k, p1 k = if b ≤ k ∧ k < n then p (b + n - 1 - k) else p k) (hl : lt (p n) (p (n - 1)) = true) : Dsc lt p1 n (n + 1) := by
  refine ⟨h.turn W hb e, fun i j hi hj hj' => ?_, fun i j a b' c => by (first | lia | omega)⟩
  have : j = n := by (first | lia | omega)
  subst this
  rw [e j, if_neg (by (first | lia | omega)), e i]
  by_cases q : b ≤ i
  · rw [if_pos ⟨q, hi⟩]
    have : lt (p (b + j - 1 - i)) (p (j - 1)) = false := by
      by_cases z : b + j - 1 - i = j - 1
      · rw [z, W.irr]
      · exact (h.i3 _ (j - 1) (by (first | lia | omega)) (by (first | lia | omega)) (by (first | lia | omega))).2.1
    exact W.l1 hl this
  · rw [if_neg (by (first | lia | omega))]
    exact W.tr _ _ _ hl (h.i2 i (j - 1) (by (first | lia | omega)) (by (first | lia | omega)) (by (first | lia | omega)))
theorem Dsc.more (W : SWO lt) {p : Nat → Nat} {b n N : Nat} (h : Dsc lt p b n) (hb : b < n) (hi : Idn p n N) (hn : n < N) (h1 : lt (p n) (p (n - 1)) = false) (h2 : lt (p (n - 1)) (p n) = false) : Dsc lt p b (n + 1) := by
  refine ⟨h.i1, fun i j a b' c => ?_, fun i j a b' c => ?_⟩
  · by_cases q : j < n
    · exact h.i2 i j a b' q
    · have : j = n := by (first | lia | omega)
      subst this
      exact W.l2 h2 (h.i2 i (j - 1) a (by (first | lia | omega)) (by (first | lia | omega)))
  · by_cases q : j < n
    · exact h.i3 i j a b' q
    · have : j = n := by (first | lia | omega)
      subst this
      refine ⟨by rw [hi.rest j (Nat.le_refl _) hn]; exact hi.low i b', ?_⟩
      by_cases z : i = j - 1
      · subst z; exact ⟨h2, h1⟩
      · obtain ⟨x, y, w⟩ := h.i3 i (j - 1) a (by (first | lia | omega)) (by (first | lia | omega))
        exact ⟨W.nt _ _ _ y h2, W.nt _ _ _ h1 w⟩
theorem Idn.rev {P : Array Nat} {n b N : Nat} (hi : Idn (fn P) n N) (hP : PA P N) (hn : n ≤ N) : Idn (fn (kas_rev P b n)) n N := by
  refine ⟨fun k a c => ?_, fun k a => ?_⟩
  · rw [fn_rev (by rw [hP.sz]; exact hn), if_neg (by (first | lia | omega))]; exact hi.rest k a c
  · rw [fn_rev (by rw [hP.sz]; exact hn)]
    split
    · exact hi.low _ (by (first | lia | omega))
    · exact hi.low _ a

theorem desc_ok (W : SWO lt) (hc : ∀ i j C, i < N → j < N → C (lt i j) s → cmp i j C s) {Q : Array Nat × Nat × Nat → Shared → Prop} : ∀ f P n q, n + f = N → q + 1 ≤ n → PA P N → Idn (fn P) n N → Dsc lt (fn P) (n - (q + 1)) n →
    (∀ P' m q', n ≤ m → m ≤ N → q' + 1 ≤ m → PA P' N → Idn (fn P') m N → Dsc lt (fn P') (m - (q' + 1)) m → Q (P', m, q') s) → (kas_desc f P n q).kasWp cmp Q s
  | 0, P, n, q, hn, hq, hP, hi, hd, h => h P n q (Nat.le_refl _) (by (first | lia | omega)) hq hP hi hd
  | f + 1, P, n, q, hn, hq, hP, hi, hd, h => by
    refine hc _ _ _ (hP.bnd (by (first | lia | omega))) (hP.bnd (by (first | lia | omega))) ?_
    cases c : lt (P.getD n 0) (P.getD (n - 1) 0) with
    | true =>
      simp only [if_true]
      split
      · rename_i q0
        have e := fn_rev (P := P) (i := n - (q + 1)) (j := n) (by rw [hP.sz]; (first | lia | omega))
        refine desc_ok W hc f _ (n + 1) 0 (by (first | lia | omega)) (by (first | lia | omega)) (hP.rev _ _) ((hi.rev hP (by (first | lia | omega))).succ (by (first | lia | omega))) ?_ fun P' m q' a b c d e g => h P' m q' (by (first | lia | omega)) b c d e g
        exact hd.next W (by (first | lia | omega)) e c
      · rename_i q0
        have q0 : q = 0 := by (first | lia | omega)
        subst q0
        refine desc_ok W hc f _ (n + 1) 0 (by (first | lia | omega)) (by (first | lia | omega)) hP (hi.succ (by (first | lia | omega))) ?_ fun P' m q' a b c d e g => h P' m q' (by (first | lia | omega)) b c d e g
        refine hd.next W (by (first | lia | omega)) (fun k => ?_) c
        split
        · congr 1; (first | lia | omega)
        · rfl
    | false =>
      simp only [Bool.false_eq_true, if_false]
      refine hc _ _ _ (hP.bnd (by (first | lia | omega))) (hP.bnd (by (first | lia | omega))) ?_
      cases c2 : lt (P.getD (n - 1) 0) (P.getD n 0) with
      | true =>
        simp only [if_true]
        exact h P n q (Nat.le_refl _) (by (first | lia | omega)) hq hP hi hd
      | false =>
        simp only [Bool.false_eq_true, if_false]
        refine desc_ok W hc f P (n + 1) (q + 1) (by (first | lia | omega)) (by (first | lia | omega)) hP (hi.succ (by (first | lia | omega))) ?_ fun P' m q' a b c d e g => h P' m q' (by (first | lia | omega)) b c d e g
        have : n + 1 - (q + 1 + 1) = n - (q + 1) := by (first | lia | omega)
        rw [this]
        exact hd.more W (by (first | lia | omega)) hi (by (first | lia | omega)) c c2

theorem tail3_ok (W : SWO lt) (hc : ∀ i j C, i < N → j < N → C (lt i j) s → cmp i j C s) {P : Array Nat} {n : Nat} {Q : Nat × Array Nat → Shared → Prop} (h1 : 1 ≤ n) (hn : n ≤ N) (hP : PA P N) (hi : Idn (fn P) n N) (hd : ∀ i j, i < j → j < n → slt lt (fn P j) (fn P i))
    (h : ∀ m P', 1 ≤ m → m ≤ N → PA P' N → Idn (fn P') m N → Srt lt (fn P') m → Q (m, P') s) : (kas_tail3 n N P).kasWp cmp Q s := by
  unfold kas_tail3
  rw [KasT.kasWp_bind]
  have e := fn_rev (P := P) (i := 0) (j := n) (by rw [hP.sz]; (first | lia | omega))
  have hs : Srt lt (fn (kas_rev P 0 n)) n := fun i j a b => by
    rw [e, e, if_pos (by (first | lia | omega)), if_pos (by (first | lia | omega))]
    exact hd _ _ (by (first | lia | omega)) (by (first | lia | omega))
  refine asc_ok W hc (hP.rev 0 n) (N - n) n (by (first | lia | omega)) h1 hs (hi.rev hP hn) fun m a b c d => ?_
  exact h m _ (by (first | lia | omega)) b (hP.rev 0 n) ((hi.rev hP hn).mono m a b) c

theorem descPart_ok (W : SWO lt) (hc : ∀ i j C, i < N → j < N → C (lt i j) s → cmp i j C s) {P : Array Nat} {n : Nat} {Q : Nat × Array Nat → Shared → Prop} (hn : n + 1 ≤ N) (h1 : 1 ≤ n) (hP : PA P N) (hi : Idn (fn P) n N) (hd : Dsc lt (fn P) n (n + 1))
    (h : ∀ m P', 1 ≤ m → m ≤ N → PA P' N → Idn (fn P') m N → Srt lt (fn P') m → Q (m, P') s) : (kas_descPart n N P).kasWp cmp Q s := by
  unfold kas_descPart
  rw [KasT.kasWp_bind]
  refine desc_ok W hc (N - (n + 1)) P (n + 1) 0 (by (first | lia | omega)) (by (first | lia | omega)) hP (hi.succ (by (first | lia | omega))) (by simpa using hd) fun P' m q' a b c d e g => ?_
  dsimp only
  split
  · have ee := fn_rev (P := P') (i := m - (q' + 1)) (j := m) (by rw [d.sz]; (first | lia | omega))
    exact tail3_ok W hc (by (first | lia | omega)) b (d.rev _ _) (e.rev d b) (g.turn W (by (first | lia | omega)) ee) h
  · have q0 : q' = 0 := by (first | lia | omega)
    subst q0
    refine tail3_ok W hc (by (first | lia | omega)) b d e (g.turn W (by (first | lia | omega)) fun k => ?_) h
    split
    · congr 1; (first | lia | omega)
    · rfl

theorem count_ok (W : SWO lt) (hc : ∀ i j C, i < N → j < N → C (lt i j) s → cmp i j C s) {P : Array Nat} {Q : Nat × Array Nat → Shared → Prop} (h1 : 1 ≤ N) (hP : PA P N) (hi : Idn (fn P) 1 N)
    (h : ∀ m P', 1 ≤ m → m ≤ N → PA P' N → Idn (fn P') m N → Srt lt (fn P') m → Q (m, P') s) : (kas_count N P).kasWp cmp Q s := by
  unfold kas_count
  rw [KasT.kasWp_bind]
  refine asc_ok W hc hP (N - 1) 1 (by (first | lia | omega)) (Nat.le_refl _) (fun i j a b => by (first | lia | omega)) hi fun n a b c d => ?_
  have hin := hi.mono n a b
  split
  · exact h n P a b hP hin c
  · rename_i e
    have hlt : n < N := by
      have : n ≠ N := fun q => e (by simp [q])
      (first | lia | omega)
    have dl := d hlt
    split
    · refine hc _ _ _ (hP.bnd (by (first | lia | omega))) (hP.bnd (by (first | lia | omega))) ?_
      cases c2 : lt (P.getD 0 0) (P.getD (n - 1) 0) with
      | true =>
        simp only [if_true]
        exact h n P a b hP hin c
      | false =>
        simp only [Bool.false_eq_true, if_false]
        have e := fn_rev (P := P) (i := 0) (j := n) (by rw [hP.sz]; (first | lia | omega))
        refine descPart_ok W hc hlt a (hP.rev 0 n) (hin.rev hP b) ⟨fun i j x y => ?_, fun i j x y z => ?_, fun i j x y z => by (first | lia | omega)⟩ h
        · rw [e, e, if_pos (by (first | lia | omega)), if_pos (by (first | lia | omega))]
          exact c _ _ (by (first | lia | omega)) (by (first | lia | omega))
        · have : j = n := by (first | lia | omega)
          subst this
          rw [e j, e i, if_neg (by (first | lia | omega)), if_pos (by (first | lia | omega))]
          have k0 : lt (fn P (0 + j - 1 - i)) (fn P 0) = false := by
            by_cases z : 0 + j - 1 - i = 0
            · rw [z, W.irr]
            · exact (c 0 (0 + j - 1 - i) (by (first | lia | omega)) (by (first | lia | omega))).not W
          exact W.l1 dl (W.nt _ _ _ k0 c2)
    · have : n = 1 := by (first | lia | omega)
      subst this
      refine descPart_ok W hc hlt a hP hin ⟨fun i j x y => by (first | lia | omega), fun i j x y z => ?_, fun i j x y z => by (first | lia | omega)⟩ h
      have e1 : j = 1 := by (first | lia | omega)
      have e2 : i = 0 := by (first | lia | omega)
      subst e1 e2
      exact dl

theorem place_ok (W : SWO lt) (hc : ∀ i j C, i < N → j < N → C (lt i j) s → cmp i j C s) {P : Array Nat} {k : Nat} {Q : Nat → Shared → Prop} (hP : PA P N) (hk : k < N) (hs : Srt lt (fn P) k) : ∀ f l r, l ≤ r → r ≤ k → r - l ≤ f →
    (∀ i, i < l → lt (fn P k) (fn P i) = false) → (∀ i, r ≤ i → i < k → lt (fn P k) (fn P i) = true) →
    (∀ l, l ≤ k → (∀ i, i < l → lt (fn P k) (fn P i) = false) → (∀ i, l ≤ i → i < k → lt (fn P k) (fn P i) = true) → Q l s) → (kas_place P k f l r).kasWp cmp Q s
  | 0, l, r, h1, h2, h3, a, b, h => h l (by (first | lia | omega)) a fun i x y => b i (by (first | lia | omega)) y
  | f + 1, l, r, h1, h2, h3, a, b, h => by
    unfold kas_place
    split
    · exact h l (by (first | lia | omega)) a fun i x y => b i (by (first | lia | omega)) y
    · refine hc _ _ _ (hP.bnd hk) (hP.bnd (by (first | lia | omega))) ?_
      cases c : lt (P.getD k 0) (P.getD ((l + r) / 2) 0) with
      | true =>
        simp only [if_true]
        refine place_ok W hc hP hk hs f l ((l + r) / 2) (by (first | lia | omega)) (by (first | lia | omega)) (by (first | lia | omega)) a (fun i x y => ?_) h
        by_cases z : i = (l + r) / 2
        · subst z; exact c
        · exact W.l1 c ((hs ((l + r) / 2) i (by (first | lia | omega)) y).not W)
      | false =>
        simp only [Bool.false_eq_true, if_false]
        refine place_ok W hc hP hk hs f ((l + r) / 2 + 1) r (by (first | lia | omega)) h2 (by (first | lia | omega)) (fun i x => ?_) b h
        by_cases z : i = (l + r) / 2
        · subst z; exact c
        · exact W.nt _ _ _ c ((hs i ((l + r) / 2) (by (first | lia | omega)) (by (first | lia | omega))).not W)
theorem bub_srt (W : SWO lt) {P : Array Nat} {k l : Nat} (hP : PA P N) (hk : k < N) (hs : Srt lt (fn P) k) (hi : Idn (fn P) k N) (hl : l ≤ k) (a : ∀ i, i < l → lt (fn P k) (fn P i) = false) (b : ∀ i, l ≤ i → i < k → lt (fn P k) (fn P i) = true) :
    Srt lt (fn (bubble P k (k - l))) (k + 1) ∧ Idn (fn (bubble P k (k - l))) (k + 1) N := by
  have e : ∀ i, fn (bubble P k (k - l)) i = if i = l then fn P k else if l < i ∧ i ≤ k then fn P (i - 1) else fn P i := fun i => by
    have e := fn_bubble (P := P) (k := k) (d := k - l) (by rw [hP.sz]; exact hk) (by (first | lia | omega)) i
    have : k - (k - l) = l := by (first | lia | omega)
    rwa [this] at e
  refine ⟨fun i j hij hj => ?_, fun i x y => ?_, fun i x => ?_⟩
  · rw [e i, e j]
    by_cases q1 : j = l
    · rw [if_pos q1, if_neg (by (first | lia | omega)), if_neg (by (first | lia | omega))]
      refine .inr ⟨a i (by (first | lia | omega)), ?_⟩
      rw [hi.rest k (Nat.le_refl _) hk]; exact hi.low i (by (first | lia | omega))
    · rw [if_neg q1]
      by_cases q2 : i = l
      · rw [if_pos q2, if_pos (by (first | lia | omega))]
        exact .inl (b (j - 1) (by (first | lia | omega)) (by (first | lia | omega)))
      · rw [if_neg q2]
        by_cases q3 : l < i ∧ i ≤ k
        · rw [if_pos q3, if_pos (by (first | lia | omega))]; exact hs _ _ (by (first | lia | omega)) (by (first | lia | omega))
        · rw [if_neg q3]
          by_cases q4 : l < j ∧ j ≤ k
          · rw [if_pos q4]; exact hs _ _ (by (first | lia | omega)) (by (first | lia | omega))
          · rw [if_neg q4]; exact hs _ _ hij (by (first | lia | omega))
  · rw [e i, if_neg (by (first | lia | omega)), if_neg (by (first | lia | omega))]; exact hi.rest i (by (first | lia | omega)) y
  · rw [e i]
    split
    · rw [hi.rest k (Nat.le_refl _) hk]; (first | lia | omega)
    · split
      · have := hi.low (i - 1) (by (first | lia | omega)); (first | lia | omega)
      · have := hi.low i (by (first | lia | omega)); (first | lia | omega)
theorem bin_ok (W : SWO lt) (hc : ∀ i j C, i < N → j < N → C (lt i j) s → cmp i j C s) {Q : Array Nat → Shared → Prop} : ∀ f P k, k + f = N → PA P N → Srt lt (fn P) k → Idn (fn P) k N →
    (∀ P', PA P' N → Srt lt (fn P') N → Q P' s) → (kas_bin f P k).kasWp cmp Q s
  | 0, P, k, hk, hP, hs, hi, h => h P hP (by have : k = N := by (first | lia | omega)
                                             subst this; exact hs)
  | f + 1, P, k, hk, hP, hs, hi, h => by
    unfold kas_bin
    rw [KasT.kasWp_bind]
    refine place_ok W hc hP (by (first | lia | omega)) hs k 0 k (Nat.zero_le _) (Nat.le_refl _) (by (first | lia | omega)) (fun i x => by (first | lia | omega)) (fun i x y => by (first | lia | omega)) fun l hl a b => ?_
    obtain ⟨s1, i1⟩ := bub_srt W hP (by (first | lia | omega)) hs hi hl a b
    exact bin_ok W hc f _ (k + 1) (by (first | lia | omega)) (hP.bub _ _) s1 i1 h
theorem sort_ok (W : SWO lt) (hc : ∀ i j C, i < N → j < N → C (lt i j) s → cmp i j C s) {Q : Array Nat → Shared → Prop} (h1 : 1 ≤ N)
    (h : ∀ P', P'.toList.Perm (List.range N) → P'.toList.Pairwise (slt lt) → Q P' s) : (kas_sort N).kasWp cmp Q s := by
  have fin : ∀ P', PA P' N → Srt lt (fn P') N → Q P' s := fun P' hP hs => by
    refine h P' hP.pm (List.pairwise_iff_getElem.mpr fun i j hi hj hij => ?_)
    have hz := hP.sz
    simp only [Array.length_toList] at hi hj
    have := hs i j hij (by (first | lia | omega))
    have e : ∀ k (hk : k < P'.size), fn P' k = P'[k] := fun k hk => by simp [fn, Array.getD, hk]
    rw [e i hi, e j hj] at this
    simpa using this
  unfold kas_sort
  rw [KasT.kasWp_bind]
  have hP0 : PA (List.toArray (List.range N)) N := ⟨by simp, by simp⟩
  have e0 : ∀ k, k < N → fn (List.toArray (List.range N)) k = k := fun k hk => by simp [fn, Array.getD, hk]
  refine count_ok W hc h1 hP0 ⟨fun k a b => e0 k b, fun k a => by rw [e0 k (by (first | lia | omega))]; exact a⟩ fun m P' a b c d e => ?_
  dsimp only
  split
  · have hm : max m 1 = m := by (first | lia | omega)
    rw [hm]
    exact bin_ok W hc (N - m) P' m (by (first | lia | omega)) c e d fin
  · have : m = N := by (first | lia | omega)
    subst this
    exact fin P' c e
end
end Mine

set_option autoImplicit false
set_option linter.unusedVariables false
set_option maxRecDepth 100000
namespace Mine
open PySem PySem.W PySem.SeqAt PyProof.Rows

/- pairs of numbers in their order -/
def pv (p : Int × Int) : V := .tup [.int p.1, .int p.2]
def lexlt (p q : Int × Int) : Bool := decide (p.1 < q.1) || (p.1 == q.1 && decide (p.2 < q.2))
theorem lexlt_iff {p q : Int × Int} : lexlt p q = true ↔ p.1 < q.1 ∨ (p.1 = q.1 ∧ p.2 < q.2) := by simp [lexlt]
theorem lexlt_false {p q : Int × Int} : lexlt p q = false ↔ q.1 < p.1 ∨ (q.1 = p.1 ∧ q.2 ≤ p.2) := by
  rw [← Bool.not_eq_true, lexlt_iff]; (first | lia | omega)
theorem lexSWO (f : Nat → Int × Int) : SWO (fun i j => lexlt (f i) (f j)) := by
  refine ⟨fun i => ?_, fun i j k => ?_, fun i j k => ?_⟩
  · rw [lexlt_false]; (first | lia | omega)
  · simp only [lexlt_iff]; (first | lia | omega)
  · simp only [lexlt_false]; (first | lia | omega)
theorem intSWO (f : Nat → Int) : SWO (fun i j => decide (f i < f j)) := by
  refine ⟨fun i => ?_, fun i j k => ?_, fun i j k => ?_⟩ <;> simp <;> (first | lia | omega)

section
variable {prog : Program} {w : World} {A : Around} {E : Value → Shared → Prop} {s : Shared}
theorem VR.pv_at {h : Heap} {v : Value} {p : Int × Int} (r : VR h v (pv p)) : ∃ a t u n, v = .ref a ∧ h.get? a = some (tupObj #[.int p.1 t, .int p.2 u] n) := by
  obtain ⟨a, ⟨l⟩, n, rfl, e, rs⟩ := VR.tupI (xs := [.int p.1, .int p.2]) r
  obtain ⟨_, _, e2, r1, r2⟩ := rs.two
  obtain ⟨_, rfl⟩ := r1.intI
  obtain ⟨_, rfl⟩ := r2.intI
  have e2 : l = _ := e2
  subst e2
  exact ⟨_, _, _, _, rfl, e⟩
end
def PairAt (h : Heap) (v : Value) (p : Int × Int) : Prop := ∃ a t u n, v = .ref a ∧ h.get? a = some (tupObj #[.int p.1 t, .int p.2 u] n)
section
variable {prog : Program} {w : World} {A : Around} {E : Value → Shared → Prop} {s : Shared}
theorem min_loop {base : Heap} {I S l : Addr} {items : Array Value} {ps : List (Int × Int)} {R : Result → Shared → Prop} (hh : A.handled = none) (hu : A.units + 1 < cLine) (hI : base.objs.size ≤ I) (hS : base.objs.size ≤ S) (hIS : I ≠ S)
    (hl : base.IsList l items) (hz : items.size = ps.length) (hone : ps.length < 2) (hr : ∀ (i : Nat) (v : Value) (p : Int × Int), items[i]? = some v → ps[i]? = some p → PairAt base v p) :
    ∀ (k j : Nat) (s : Shared) (vb : Value) (c : Nat) (p : Int × Int), ps.length - (j + 1) = k → j + 1 ≤ ps.length → s.heap.IsListIter I l (j + 1) → (∀ b o, base.get? b = some o → s.heap.get? b = some o) →
    s.heap.get? S = some { cls := .type "list", dict := none, data := .seq #[vb, vb] c, slots := #[] } → PairAt base vb p → (∃ i : Nat, i < ps.length ∧ items[i]? = some vb ∧ ps[i]? = some p) → (∀ q ∈ ps.take (j + 1), lexlt q p = false) →
    (∀ v p h' tk, (∃ i : Nat, i < ps.length ∧ items[i]? = some v ∧ ps[i]? = some p) → (∀ q ∈ ps, lexlt q p = false) → (∀ b o, base.get? b = some o → h'.get? b = some o) → R (.ok (.ret v)) { s with heap := h', toks := tk }) →
    codeAny (model prog w) A (.builtin "min.loop" ⟨[.ref I, .none, .ref S], []⟩) R s := by
  have hname : (toString "min" ++ toString ".loop" : String) = "min.loop" := by decide
  have hlI : l ≠ I := by obtain ⟨o, e, _⟩ := hl; exact Nat.ne_of_lt (Nat.lt_of_lt_of_le (Heap.lt_size e) hI)
  have W := Walks.list (prog := prog) (w := w) (A := A.in1) hh I l hlI items
  have up : ∀ {h h' : Heap}, (∀ b o, base.get? b = some o → h.get? b = some o) → (∀ b o, b ∉ [I] → h.get? b = some o → h'.get? b = some o) → ∀ b o, base.get? b = some o → h'.get? b = some o := fun a b' c o e =>
    b' c o (fun q => by rw [List.mem_singleton.mp q] at e; exact absurd (Heap.lt_size e) (Nat.not_lt.mpr hI)) (a c o e)
  have upS : ∀ {h : Heap} {f : Obj → Obj}, (∀ b o, base.get? b = some o → h.get? b = some o) → ∀ b o, base.get? b = some o → (h.update S f).get? b = some o := fun a c o e =>
    (Heap.get?_update_other _ _ (fun q : S = c => by rw [← q] at e; exact absurd (Heap.lt_size e) (Nat.not_lt.mpr hS))).trans (a c o e)
  have hSI : S ∉ [I] := fun q => hIS (List.mem_singleton.mp q).symm
  intro k
  induction k with
  | zero =>
    intro j s vb c p hk hj hit hb hSo hp hin hmin hR
    have hjn : j + 1 = items.size := by (first | lia | omega)
    refine codeAny_builtin F.entry_min_loop ?_
    rw [Around.under_plainId F.plain_min_loop _]
    show wpAny _ A.in1 (seqItems? (.ref S) >>= _) _ _ s
    refine wpAny_bind (wpAny_seqItems hSo rfl ?_)
    show wpAny _ A.in1 (tryCatch (pyNext (.ref I)) _ >>= _) _ _ s
    refine wpAny_bind (wpAny_tryCatch (W.done s _ _ ⟨hjn ▸ hit, hl.at fun o e => hb _ _ e⟩ fun h' tk hk' => ?_))
    have hS' := hk' S _ hSI hSo
    show wpAny _ A.in1 (updateSeq S (fun _ => #[]) >>= _) _ _ _
    refine wpAny_bind ?_
    refine wpAny_updateSeq hS' rfl (wpAny_bind (wpAny_letGo (wpAny_pure ?_)))
    refine hR vb p _ tk hin (fun q hq => hmin q ?_) (upS (up hb hk'))
    rw [List.take_of_length_le (by (first | lia | omega))]; exact hq
  | succ k ih =>
    intro j s vb c p hk hj hit hb hSo hp hin hmin hR
    exfalso; (first | lia | omega)
theorem call_min_pairs {l : Addr} {items : Array Value} {ps : List (Int × Int)} {Q : Value → Shared → Prop} (hh : A.handled = none) (hu : A.units + 1 < cLine) (hl : s.heap.IsList l items) (hz : items.size = ps.length) (hne : 0 < ps.length) (hone : ps.length < 2)
    (hr : ∀ (i : Nat) (v : Value) (p : Int × Int), items[i]? = some v → ps[i]? = some p → PairAt s.heap v p)
    (h : ∀ v p h' tk, (∃ i : Nat, i < ps.length ∧ items[i]? = some v ∧ ps[i]? = some p) → (∀ q ∈ ps, lexlt q p = false) → (∀ b o, s.heap.get? b = some o → h'.get? b = some o) → Q v { s with heap := h', toks := tk }) :
    wpAny (model prog w) A (call (.builtin "min") [.ref l]) Q E s := by
  have hname : (toString "min" ++ toString ".loop" : String) = "min.loop" := by decide
  have hlt : l < s.heap.objs.size := by obtain ⟨o, e, _⟩ := hl; exact Heap.lt_size e
  refine call_function_tree F.kind_min F.plain_min F.entry_min (F.args_min1 _) ?_
  show wpAny _ A.in1 (Builtin.Builtins.bindParams "min" ["key", "default"] 0 ⟨[], []⟩ >>= _) _ _ s
  refine wpAny_bind (wpAny_of_eq (show Builtin.Builtins.bindParams "min" ["key", "default"] 0 ⟨[], []⟩ = pure [none, none] from rfl) ?_)
  refine wpAny_bind (wpAny_pure ?_)
  refine wpAny_bind (wpAny_pyIter_list hl ?_)
  refine wpAny_bind (wpAny_newObj_type ?_)
  rw [hname]
  refine wpAny_pure ⟨plainId_quiet F.plain_min_loop _, ?_⟩
  generalize hH : (s.heap.push _).push _ = H
  have hIt : H.IsListIter s.heap.objs.size l 0 := by rw [← hH]; exact ⟨_, Heap.get?_push_of_some _ (Heap.get?_push_size _ rfl), rfl, rfl⟩
  have hSz : ∀ o : Obj, (s.heap.push o).objs.size = s.heap.objs.size + 1 := fun o => Heap.size_push ..
  rw [hSz]
  have hSo : H.get? (s.heap.objs.size + 1) = some { cls := .type "list", dict := none, data := .seq #[] 0, slots := #[] } := by rw [← hH, ← hSz]; exact Heap.get?_push_size _ rfl
  have hb : ∀ b o, s.heap.get? b = some o → H.get? b = some o := fun b o e => by rw [← hH]; exact Heap.get?_push_of_some _ (Heap.get?_push_of_some _ e)
  have W := Walks.list (prog := prog) (w := w) (A := A.in1) hh s.heap.objs.size l (Nat.ne_of_lt hlt) items
  have hSI : s.heap.objs.size + 1 ∉ [s.heap.objs.size] := fun q => by have := List.mem_singleton.mp q; (first | lia | omega)
  refine codeAny_builtin F.entry_min_loop ?_
  rw [Around.under_plainId F.plain_min_loop _]
  show wpAny _ A.in1 (seqItems? (.ref (s.heap.objs.size + 1)) >>= _) _ _ _
  refine wpAny_bind (wpAny_seqItems hSo rfl ?_)
  show wpAny _ A.in1 (tryCatch (pyNext (.ref s.heap.objs.size)) _ >>= _) _ _ _
  refine wpAny_bind (wpAny_tryCatch (W.item 0 _ _ _ (by (first | lia | omega)) ⟨hIt, hl.at fun o e => hb _ _ e⟩ fun v h' tk hP hst' hk' => ?_))
  have hS' := hk' _ _ hSI hSo
  show wpAny _ A.in1 (updateSeq (s.heap.objs.size + 1) (fun _ => #[v, v]) >>= _) _ _ _
  refine wpAny_bind ?_
  refine wpAny_updateSeq hS' rfl ?_
  rw [hname]
  obtain ⟨q, hq⟩ : ∃ q, ps[0]? = some q := ⟨_, List.getElem?_eq_getElem hne⟩
  refine wpAny_pure ⟨plainId_quiet F.plain_min_loop _, min_loop (base := s.heap) hh hu (Nat.le_refl _) (Nat.le_succ _) (Nat.ne_of_lt (Nat.lt_succ_self _)) hl hz hone hr _ 0 _ v _ q rfl hne ((hst'.1).at fun o e => (Heap.get?_update_other _ _ (Nat.succ_ne_self _)).trans e) (fun b o e => ?_) (Heap.get?_update_self _ hS' rfl) (hr _ _ _ hP hq) ⟨0, hne, hP, hq⟩ (fun r hr' => ?_) fun v' p' h'' tk'' x1 x2 x3 => h v' p' h'' tk'' x1 x2 x3⟩
  · exact (Heap.get?_update_other _ _ (Nat.ne_of_gt (Nat.lt_succ_of_lt (Heap.lt_size e)))).trans (hk' b o (fun q => absurd (List.mem_singleton.mp q) (Nat.ne_of_lt (Heap.lt_size e))) (hb b o e))
  · rw [List.take_add_one, hq] at hr'
    have : r = q := by simpa using hr'
    subst this; rw [lexlt_false]; (first | lia | omega)
end
/- sorted() -/
section
variable {prog : Program} {w : World} {A : Around} {E : Value → Shared → Prop} {s : Shared}
theorem sort_tree {a : Addr} {vs : List Value} {n : Nat} {lt : Nat → Nat → Bool} {P : PySem.Fin → Shared → Prop} (W : SWO lt) (ho : s.heap.get? a = some (seqObj "list" vs.toArray n)) (h64 : vs.length < 2)
    (hk : ∀ h' : Heap, 2 ≤ vs.length → (∀ b o, b ≠ a → s.heap.get? b = some o → h'.get? b = some o) → ∃ κ, (∀ Q : SortKind → Shared → Prop, Q κ { s with heap := h' } → wpAny (model prog w) A (keyKind' vs.toArray) Q E { s with heap := h' }) ∧
      ∀ i j C, i < vs.length → j < vs.length → C (lt i j) { s with heap := h' } → kas_ask prog w A κ vs i j C { s with heap := h' })
    (h : ∀ (h' : Heap) (p : List Nat), (∀ b o, b ≠ a → s.heap.get? b = some o → h'.get? b = some o) → h'.PlainList a (p.map fun i => vs.getD i Value.none).toArray → p.Perm (List.range vs.length) → p.Pairwise (slt lt) → P (.done (.ret .none)) { s with heap := h' }) :
    wpAny (model prog w) A (Builtin.«list.sort» ⟨[.ref a], []⟩) P E s := by
  have ha : a < s.heap.objs.size := Heap.lt_size ho
  rw [list_sort_plain]
  refine wpAny_bind (listItems_at ho rfl ?_)
  refine wpAny_bind (listUpdate_at ho rfl ?_ (by rw [List.size_toArray, sizeLine_eq]; (first | lia | omega)) (Nat.zero_le _))
  obtain ⟨e1, ho1⟩ : ∃ e1, (s.heap.update a (Obj.mapSeq fun _ => (#[] : Array Value))).get? a = some (seqObj "list" #[] e1) := ⟨_, get?_update_seq ho fun _ => #[]⟩
  refine wpAny_bind (seqEpoch_at ho1 rfl ?_)
  refine wpAny_bind (wpAny_newTuple ?_ (by show vs.length ≤ _; rw [sizeLine_eq]; (first | lia | omega)))
  refine wpAny_bind (wpAny_newList ?_ (Nat.zero_le _))
  refine wpAny_holding ?_
  generalize hH : ((s.heap.update a (Obj.mapSeq fun _ => (#[] : Array Value))).push (seqObj "tuple" vs.toArray 0)).push (seqObj "list" #[] 0) = H
  have hHa : H.get? a = some (seqObj "list" #[] e1) := by rw [← hH]; exact Heap.get?_push_of_some _ (Heap.get?_push_of_some _ ho1)
  have hHk : ∀ b o, b ≠ a → s.heap.get? b = some o → H.get? b = some o := fun b o q e => by
    rw [← hH]; exact Heap.get?_push_of_some _ (Heap.get?_push_of_some _ ((Heap.get?_update_other _ _ (Ne.symm q)).trans e))
  show wpAny (model prog w) A _ P E { s with heap := H }
  dsimp only
  have fin : ∀ (p : List Nat) (out : Array Value), out = (p.map fun i => vs.getD i Value.none).toArray → p.Perm (List.range vs.length) → p.Pairwise (slt lt) → P (.done (.ret .none)) { s with heap := H.update a (Obj.mapSeq fun _ => out) } := fun p out e hp hs => by
    subst e
    refine h _ p (fun b o q e => (Heap.get?_update_other _ _ (Ne.symm q)).trans (hHk b o q e)) ⟨_, get?_update_seq hHa fun _ => _⟩ hp hs
  by_cases h2 : vs.toArray.size < 2
  · rw [if_pos h2, if_pos h2]
    rw [List.size_toArray] at h2
    refine wpAny_bind (wpAny_pure ?_)
    rw [StateT.run_pure]
    refine wpAny_bind (wpAny_pure ?_)
    dsimp only
    refine wpAny_bind (seqEpoch_at hHa rfl ?_)
    have e : (arrOf (SortSt.mk' general' (vs.toArray.zip vs.toArray) #[] 7 none)).map (·.2) = vs.toArray := by
      show (vs.toArray.zip vs.toArray).map (·.2) = vs.toArray
      apply Array.toList_inj.mp
      simp [List.map_snd_zip]
    refine wpAny_bind (listUpdate_at hHa rfl ?_ (Nat.zero_le _) (by rw [e, List.size_toArray, sizeLine_eq]; (first | lia | omega)))
    simp only [bne_self_eq_false, Bool.false_eq_true, if_false]
    refine wpAny_pure (fin (List.range vs.length) _ ?_ (List.Perm.refl _) ?_)
    · rw [e]
      apply Array.toList_inj.mp
      refine List.ext_getElem (by simp) fun i h1 h2 => ?_
      simp at h1
      simp [h1]
    · match vs, h2 with
      | [], _ => exact .nil
      | [v], _ => exact .cons (fun _ q => (nomatch q)) .nil
      | _ :: _ :: _, h2 => simp at h2; (first | lia | omega)
  · rw [if_neg h2, if_neg h2]
    rw [List.size_toArray] at h2
    exfalso; (first | lia | omega)
theorem sorted_raw {l : Addr} {vs : List Value} {lt : Nat → Nat → Bool} {Q : Value → Shared → Prop} (W : SWO lt) (hl : s.heap.IsList l vs.toArray) (h64 : vs.length < 2)
    (hk : ∀ h' : Heap, 2 ≤ vs.length → (∀ b o, s.heap.get? b = some o → h'.get? b = some o) → ∃ κ, (∀ (Q : SortKind → Shared → Prop) (E : Value → Shared → Prop), Q κ { s with heap := h' } → wpAny (model prog w) A.in1.in1 (keyKind' vs.toArray) Q E { s with heap := h' }) ∧
      ∀ i j C, i < vs.length → j < vs.length → C (lt i j) { s with heap := h' } → kas_ask prog w A.in1.in1 κ vs i j C { s with heap := h' })
    (h : ∀ (h' : Heap) (a : Addr) (p : List Nat), s.heap.objs.size ≤ a → (∀ b o, s.heap.get? b = some o → h'.get? b = some o) → h'.PlainList a (p.map fun i => vs.getD i Value.none).toArray → p.Perm (List.range vs.length) → p.Pairwise (slt lt) → Q (.ref a) { s with heap := h' }) :
    wpAny (model prog w) A (call (.builtin "sorted") [.ref l]) Q E s := by
  refine Calls.call_function_entry kind_sorted plain_sorted entry_sorted (args_sorted1 _) ?_
  unfold Builtin.«sorted»
  refine wpAny_bind (m := checkCount "sorted" 1 1 _) (wpAny_pure ?_)
  refine wpAny_bind (collect_list hl ?_ (by rw [sizeLine_eq]; (first | lia | omega)))
  refine wpAny_bind (wpAny_newList ?_ (by rw [sizeLine_eq]; (first | lia | omega)))
  have hsz : ((s.heap.push (seqObj "list" #[] 0)).update s.heap.objs.size (Obj.mapSeq (· ++ vs.toArray))).objs.size = s.heap.objs.size + 1 := by
    rw [Heap.size_update, size_push']
  generalize hH : ((s.heap.push (seqObj "list" #[] 0)).update s.heap.objs.size (Obj.mapSeq (· ++ vs.toArray))).push (seqObj "list" vs.toArray 0) = H
  have hoL : H.get? (s.heap.objs.size + 1) = some (seqObj "list" vs.toArray 0) := by
    rw [← hH, ← hsz]; exact Heap.get?_push_size _ rfl
  have keep : ∀ b o, s.heap.get? b = some o → H.get? b = some o := fun b o q => by
    have hlt : b < s.heap.objs.size := Heap.lt_size q
    rw [← hH, Heap.get?_push_ne _ _ _ (by rw [hsz]; exact Nat.ne_of_lt (Nat.lt_succ_of_lt hlt)), Heap.get?_update_ne _ _ _ _ (Nat.ne_of_lt hlt), Heap.get?_push_ne _ _ _ (Nat.ne_of_lt hlt)]
    exact q
  have old : ∀ b o, s.heap.get? b = some o → b ≠ s.heap.objs.size + 1 := fun b o e => Nat.ne_of_lt (Nat.lt_succ_of_lt (Heap.lt_size e))
  show wpAny _ _ _ _ _ { s with heap := H }
  rw [hsz]
  refine wpAny_bind (wpAny_holding (wpAny_call_entry slot_list_sort ⟨_, hoL, rfl⟩ entry_list_sort (sort_tree (s := { s with heap := H }) W hoL h64 (fun h' h2 kp => ?_) fun h' p kp pl hp hs => ⟨_, rfl, ?_⟩) (args_list_sort _)))
  · obtain ⟨κ, k1, k2⟩ := hk h' h2 fun b o e => kp b o (old b o e) (keep b o e)
    exact ⟨κ, fun Q q => k1 Q _ q, k2⟩
  · exact wpAny_pure ⟨_, rfl, h h' _ p (Nat.le_succ _) (fun b o e => kp b o (old b o e) (keep b o e)) pl hp hs⟩

end
section
variable {C : Cx} {A : Around} {env : Env} {ρ : Rho} {σ : Store} {X : XP} {s : Shared}
theorem CallWP.sortedPairs {l : Addr} {ps : List (Int × Int)} {Q : V → Store → Prop} (hl : LstAt C σ l (ps.map pv)) (h64 : ps.length < 2)
    (h : ∀ (a : Addr) (ps' : List (Int × Int)), σ a = none → ps'.Perm ps → ps'.Pairwise (fun p q => lexlt q p = false) → Q (.ref a) (σ.upd a (.list (ps'.map pv)))) : CallWP C A (.builtin "sorted") [.ref l] σ Q X := by
  intro s vs S r
  obtain ⟨_, rfl, r1⟩ := r.one
  obtain rfl := r1.refI
  obtain ⟨⟨vs⟩, il, rl⟩ := hl.raw S
  simp only at rl
  have el := rl.length
  simp only [List.length_map] at el
  have at_ : ∀ (i : Nat), i < vs.length → VR s.heap (vs.getD i Value.none) (pv (ps.getD i (0, 0))) := fun i hi => by
    have hi' : i < ps.length := by (first | lia | omega)
    obtain ⟨u, hu', ru⟩ := rl.get (i := i) (y := pv (ps.getD i (0, 0))) (by simp [hi'])
    have : u = vs.getD i Value.none := by simp [hu', List.getD]
    exact this ▸ ru
  refine sorted_raw (lexSWO fun i => ps.getD i (0, 0)) il (by (first | lia | omega)) (fun h' h2 kp => ?_) fun h' a p ha kp pl hp hs => ?_
  · exfalso; (first | lia | omega)
  · have S' : St C σ { s with heap := h', toks := s.toks } := S.ext kp
    have hpl := hp.length_eq
    have bound : ∀ i ∈ p, i < vs.length := fun i hi => by simpa using hp.mem_iff.mp hi
    have rr : ∀ q : List Nat, (∀ i ∈ q, i < vs.length) → VRs h' (q.map fun i => vs.getD i Value.none) ((q.map fun i => ps.getD i (0, 0)).map pv) := fun q => by
      induction q with
      | nil => exact fun _ => .nil
      | cons i q ih => exact fun hb => .cons ((at_ i (hb i (.head _))).mono fun _ _ _ e => kp _ _ e) (ih fun j hj => hb j (.tail _ hj))
    obtain ⟨S2, e2⟩ := S'.adopt (a := a) (o := .list ((p.map fun i => ps.getD i (0, 0)).map pv)) (σ0 := σ) (h0 := s.heap) ⟨_, pl, by simpa using rr p bound⟩ (Nat.le_trans S.size ha) (.ext kp) (get?_fresh' ha)
    refine ⟨.ref _, _, h a (p.map fun i => ps.getD i (0, 0)) (S.fresh' ha) ?_ ?_, .ref _, S2, e2⟩
    · have e : (List.range vs.length).map (fun i => ps.getD i (0, 0)) = ps := by
        rw [el]
        refine List.ext_getElem (by simp) fun i h1 h2 => ?_
        simp at h1; simp [h1]
      have := hp.map fun i => ps.getD i (0, 0)
      rw [e] at this; exact this
    · rw [List.pairwise_map]
      exact hs.imp fun {i j} z => z.not (lexSWO fun i => ps.getD i (0, 0))
end
section
variable {C : Cx} {A : Around} {env : Env} {ρ : Rho} {σ : Store} {X : XP} {s : Shared}
theorem CallWP.minPairs {l : Addr} {ps : List (Int × Int)} {Q : V → Store → Prop} (hh : A.handled = none) (hu : A.units + 1 < cLine) (hl : LstAt C σ l (ps.map pv)) (hne : 0 < ps.length) (hone : ps.length < 2) (h : ∀ p, p ∈ ps → (∀ q ∈ ps, lexlt q p = false) → Q (pv p) σ) :
    CallWP C A (.builtin "min") [.ref l] σ Q X := by
  intro s vs S r
  obtain ⟨_, rfl, r1⟩ := r.one
  obtain rfl := r1.refI
  obtain ⟨items, il, rl⟩ := hl.raw S
  have el := rl.length
  simp only [Array.length_toList, List.length_map] at el
  have at_ : ∀ (i : Nat) (v : Value) (p : Int × Int), items[i]? = some v → ps[i]? = some p → VR s.heap v (pv p) := fun i v p hv hp => by
    obtain ⟨u, hu', ru⟩ := rl.get (i := i) (y := pv p) (by simp [hp])
    have : u = v := by simpa [hv] using hu'.symm
    exact this ▸ ru
  refine call_min_pairs hh hu il el hne hone (fun i v p hv hp => (at_ i v p hv hp).pv_at) fun v p h' tk ⟨i, hi, hv, hp⟩ hmin kp => ?_
  exact ⟨pv p, σ, h p (List.mem_of_getElem? hp) hmin, (at_ i v p hv hp).mono fun _ _ _ e => kp _ _ e, S.ext kp, .ext kp⟩
theorem Rho.gp_miss4 {x1 x2 x3 x4 y : Str} {v1 v2 v3 v4 : V} {u : Option V} {r : Rho} (h1 : y ≠ x1) (h2 : y ≠ x2) (h3 : y ≠ x3) (h4 : y ≠ x4) (k : Rho.get r y = u) : Rho.get (Rho.put (Rho.put (Rho.put (Rho.put r x1 v1) x2 v2) x3 v3) x4 v4) y = u :=
  Rho.gp_miss h4 (Rho.gp_miss h3 (Rho.gp_miss h2 (Rho.gp_miss h1 k)))
/- attributes of own objects, step by step -/
def AttrWP (C : Cx) (x : V) (name : Str) (σ1 : Store) (Q : V → Store → Prop) : Prop := ∃ a c dx es y attr, x = .ref a ∧ σ1 a = some (.inst c dx) ∧ σ1 dx = some (.sd es) ∧ sget es name = some y ∧ plainGet C.K c name = true ∧ hasDictIn C.K c = true ∧
      findIn C.K (.ref c) name = some attr ∧ noGet C.K attr = true ∧ (∀ i, y ≠ .blt i) ∧ Q y σ1
theorem Ev.attr' {o : Expr} {name : Str} {pos : Pos} {Q : V → Store → Prop} (h : Ev C A env o ρ σ (fun x σ1 => AttrWP C x name σ1 Q) X)
    (hbase : attributeBase o name env (eval o env) = eval o env := by kernel_rfl) : Ev C A env (.Attribute o name pos) ρ σ Q X := Ev.attr h hbase
theorem AttrWP.mk {a c dx : Addr} {es : List (Str × V)} {y : V} {attr : Option Value} {name : Str} {Q : V → Store → Prop} (h1 : σ a = some (.inst c dx)) (h2 : σ dx = some (.sd es)) (h3 : sget es name = some y) (k1 : plainGet C.K c name = true) (k2 : hasDictIn C.K c = true)
    (k3 : findIn C.K (.ref c) name = some attr) (k4 : noGet C.K attr = true) (k5 : ∀ i, y ≠ .blt i) (h : Q y σ) : AttrWP C (.ref a) name σ Q :=
  ⟨a, c, dx, es, y, attr, rfl, h1, h2, h3, k1, k2, k3, k4, k5, h⟩
def MethWP (C : Cx) (A : Around) (env : Env) (pos : Pos) (args : List Expr) (ρ : Rho) (x : V) (name : Str) (σ1 : Store) (Q : V → Store → Prop) (X : XP) : Prop := ∃ a c dx es f, x = .ref a ∧ σ1 a = some (.inst c dx) ∧ σ1 dx = some (.sd es) ∧ sget es name = none ∧ plainGet C.K c name = true ∧
      findIn C.K (.ref c) name = some (some (.ref f)) ∧ isFn C.K (.ref f) = true ∧ keepIn C.K (.ref f) = true ∧ Ags C A env pos args ρ σ1 (fun xs σ2 => CallWP C A (.ref f) (.ref a :: xs) σ2 Q X) X
theorem Ev.meth' {o : Expr} {name : Str} {apos pos : Pos} {args : List Expr} {Q : V → Store → Prop}
    (h : Ev C A env o ρ σ (fun x σ1 => MethWP C A env pos args ρ x name σ1 Q X) X)
    (he : eval (.Call (.Attribute o name apos) args [] pos) env = (do
      let ov ← eval o env
      standAt apos.atName
      let (f, first) ← holding [ov] (getMethod ov name (do return (← importBound o env).getD true))
      callWith pos f first (backTo pos (starEach args env)) (backToKw pos (keywordEach [] env))) := by kernel_rfl)
    (hst : (backTo pos (starEach args env)).any (·.1) = false := by kernel_rfl) : Ev C A env (.Call (.Attribute o name apos) args [] pos) ρ σ Q X := Ev.meth h he hst
theorem MethWP.mk {a c dx f : Addr} {es : List (Str × V)} {name : Str} {pos : Pos} {args : List Expr} {Q : V → Store → Prop} (h1 : σ a = some (.inst c dx)) (h2 : σ dx = some (.sd es)) (h3 : sget es name = none) (k1 : plainGet C.K c name = true)
    (k2 : findIn C.K (.ref c) name = some (some (.ref f))) (k3 : isFn C.K (.ref f) = true) (k4 : keepIn C.K (.ref f) = true) (h : Ags C A env pos args ρ σ (fun xs σ2 => CallWP C A (.ref f) (.ref a :: xs) σ2 Q X) X) : MethWP C A env pos args ρ (.ref a) name σ Q X :=
  ⟨a, c, dx, es, f, rfl, h1, h2, h3, k1, k2, k3, k4, h⟩
def SAttWP (C : Cx) (x : V) (name : Str) (y : V) (σ1 : Store) (Q : Store → Prop) : Prop := ∃ a c dx es, x = .ref a ∧ σ1 a = some (.inst c dx) ∧ σ1 dx = some (.sd es) ∧ es.length ≤ 1000 ∧
      findIn C.K (.ref c) "__setattr__" = some (some (.builtin "object.__setattr__")) ∧ plainOver C.K c = true ∧ takerIn C.K c name = some none ∧ hasDictIn C.K c = true ∧ Q (σ1.upd dx (.sd (sput es name y)))
theorem Asg.attr' {o : Expr} {name : Str} {pos : Pos} {y : V} {Q : Rho → Store → Prop} (h : Ev C A env o ρ σ (fun x σ1 => SAttWP C x name y σ1 (fun σ2 => Q ρ σ2)) X) : Asg C A env (.Attribute o name pos) y ρ σ Q X := Asg.attr h
theorem SAttWP.mk {a c dx : Addr} {es : List (Str × V)} {y : V} {name : Str} {Q : Store → Prop} (h1 : σ a = some (.inst c dx)) (h2 : σ dx = some (.sd es)) (h3 : es.length ≤ 1000) (k1 : findIn C.K (.ref c) "__setattr__" = some (some (.builtin "object.__setattr__")))
    (k2 : plainOver C.K c = true) (k3 : takerIn C.K c name = some none) (k4 : hasDictIn C.K c = true) {es' : List (Str × V)} (hp : sput es name y = es') (h : Q (σ.upd dx (.sd es'))) : SAttWP C (.ref a) name y σ Q :=
  ⟨a, c, dx, es, rfl, h1, h2, h3, k1, k2, k3, k4, hp ▸ h⟩
theorem sput_nil {x : Str} {v : V} : sput [] x v = [(x, v)] := rfl
theorem sput_hit {x : Str} {u v : V} {r : List (Str × V)} : sput ((x, u) :: r) x v = (x, v) :: r := by simp [sput]
theorem sput_miss {x y : Str} {u v : V} {r r' : List (Str × V)} (h : x ≠ y) (k : sput r x v = r') : sput ((y, u) :: r) x v = (y, u) :: r' := by simp [sput, h, k]
theorem sget_nil {x : Str} : sget [] x = none := rfl

/- making an own object -/
def CodC (C : Cx) (A : Around) (f : Value) (args : List V) (σ : Store) (Q : V → Store → Prop) : Prop :=
  ∀ s vs, St C σ s → VRs s.heap vs args → codeAny C.M A (.call f ⟨vs, []⟩) (fun r s' => match r with | .ok (.ret v) => EP C σ s.heap Q v s' | _ => False) s
theorem CodC.fn {f : Addr} {o : Obj} {fd : FuncData} {body : List Stmt} {names : List Str} {args : List V} {Q : V → Store → Prop}
    (ho : C.h₀.get? f = some o) (hd : o.data = .func fd) (hlim : C.h₀.NoLimit) (hcd : C.h₀.CodeRec fd.code fd.qualname) (hbody : fd.body = .stmts body)
    (hbind : ∀ vals : List Value, vals.length = args.length → bindArgs fd ⟨vals, []⟩ = pure (names.zip vals)) (hclo : fd.closure = []) (nd : names.Nodup)
    (hkind : ∀ x ∈ names, fd.scope.names.lookup x = some .local ∨ (fd.scope.names.lookup x = some .cell ∧ ∀ L, ((cellsFrom L fd.scope.names []).lookup x).isSome = true))
    (hroom : A.depth < recursionLimit) (hsc : scopeOk fd.scope = true) (hco : fd.scope.isCoroutine = false) (hgen : fd.scope.isGenerator = false) (hk : fd.scope.kind = .function)
    (h : ∀ L, Exs C (A.deeper (callEnvC fd L f)) (callEnvC fd L f) body (names.zip args) σ (fun g _ σ' => Q g.val σ') (fun _ _ => False)) : CodC C A (.ref f) args σ Q := by
  intro s vs S r
  have hk' : ∀ b o, C.h₀.get? b = some o → s.heap.get? b = some o := S.base
  refine codeAny_call_cells (fd := fd) hroom (hk' _ _ ho) hd (hlim.keeps hk') (hcd.keeps hk') hbody (hbind vs r.length) hclo ?_ (fun s₁ x => ?_) hco hgen hk
  · intro y hy
    rcases hkind y.1 (List.of_mem_zip hy).1 with q | ⟨q, q'⟩
    · exact .inl q
    · exact .inr ⟨q, q' _⟩
  · obtain ⟨S₁, F₁, keep⟩ := S.callee r nd hk hsc x
    refine wpAny_mono (h s.heap.objs.size s₁ S₁ F₁) (fun fl s' z => ?_) (fun _ _ z => z.elim)
    have y := EP.ret S keep (fun n c hc => x.above n c (mem_of_lookup hc)) z
    cases fl <;> exact y
theorem CodC.def {f : Addr} {name qual : Str} {params : Arguments} {body : List Stmt} {scope : Scope} {dV kV doc pm cdv ct oc : Value} {an od : Option Addr} {osl : Array (Option Value)} (names : List Str) {args : List V} {Q : V → Store → Prop}
    (ho : C.K.lookup f = some ⟨oc, od, .func (fnOf name qual params body scope dV kV doc pm an cdv ct), osl⟩) (hcd : codeIn C.K cdv qual = true)
    (hroom : A.depth < recursionLimit)
    (hbind : ∀ vals : List Value, vals.length = args.length → bindArgs (fnOf name qual params body scope dV kV doc pm an cdv ct) ⟨vals, []⟩ = pure (names.zip vals)) (nd : names.Nodup)
    (hkind : (names.all fun y => scope.names.lookup y == some .local || scope.names.lookup y == some .cell) = true) (hsc : scopeOk scope = true) (hco : scope.isCoroutine = false) (hgen : scope.isGenerator = false) (hk : scope.kind = .function)
    (h : ∀ L A', A'.handled = A.handled → A'.depth = A.depth + 1 → A'.units = A.units + 3 → Exs C A' (mkE scope L (cellsFrom (L + 1) scope.names []) (qual ++ ".<locals>.") (some f) cdv (some L)) body (names.zip args) σ (fun g _ σ' => Q g.val σ') (fun _ _ => False)) :
    CodC C A (.ref f) args σ Q := by
  refine CodC.fn (C.KX _ _ ho) rfl C.lim (codeRec_of C.KX hcd) rfl hbind rfl nd (fun x hx => ?_) hroom hsc hco hgen hk (fun L => h L _ rfl rfl rfl)
  have := List.all_eq_true.mp hkind x hx
  rcases Bool.or_eq_true_iff.mp this with q | q
  · exact .inl (by simpa using q)
  · have q' : scope.names.lookup x = some .cell := by simpa using q
    exact .inr ⟨q', fun L => cellsFrom_some _ _ _ (.inl q')⟩
theorem CodC.def1 (x1 : Str) {f : Addr} {name qual : Str} {params : Arguments} {body : List Stmt} {scope : Scope} {dV kV doc pm cdv ct oc : Value} {an od : Option Addr} {osl : Array (Option Value)} {v1 : V} {Q : V → Store → Prop}
    (ho : C.K.lookup f = some ⟨oc, od, .func (fnOf name qual params body scope dV kV doc pm an cdv ct), osl⟩) (hcd : codeIn C.K cdv qual = true) (hroom : A.depth < recursionLimit)
    (hbind : ∀ u1 : Value, bindArgs (fnOf name qual params body scope dV kV doc pm an cdv ct) ⟨[u1], []⟩ = pure [(x1, u1)]) (nd : ([x1] : List Str).Nodup)
    (hkind : (([x1] : List Str).all fun y => scope.names.lookup y == some .local || scope.names.lookup y == some .cell) = true) (hsc : scopeOk scope = true) (hco : scope.isCoroutine = false) (hgen : scope.isGenerator = false) (hk : scope.kind = .function)
    (h : ∀ L A', A'.handled = A.handled → A'.depth = A.depth + 1 → A'.units = A.units + 3 → Exs C A' (mkE scope L (cellsFrom (L + 1) scope.names []) (qual ++ ".<locals>.") (some f) cdv (some L)) body [(x1, v1)] σ (fun g _ σ' => Q g.val σ') (fun _ _ => False)) :
    CodC C A (.ref f) [v1] σ Q :=
  CodC.def [x1] (args := [v1]) ho hcd hroom (fun vals hl => by obtain ⟨u1, t1, rfl, h1⟩ := lenS hl; obtain rfl := List.eq_nil_of_length_eq_zero h1; exact hbind u1) nd hkind hsc hco hgen hk h
theorem CodC.def3 (x1 x2 x3 : Str) {f : Addr} {name qual : Str} {params : Arguments} {body : List Stmt} {scope : Scope} {dV kV doc pm cdv ct oc : Value} {an od : Option Addr} {osl : Array (Option Value)} {v1 v2 v3 : V} {Q : V → Store → Prop}
    (ho : C.K.lookup f = some ⟨oc, od, .func (fnOf name qual params body scope dV kV doc pm an cdv ct), osl⟩) (hcd : codeIn C.K cdv qual = true) (hroom : A.depth < recursionLimit)
    (hbind : ∀ u1 u2 u3 : Value, bindArgs (fnOf name qual params body scope dV kV doc pm an cdv ct) ⟨[u1, u2, u3], []⟩ = pure [(x1, u1), (x2, u2), (x3, u3)]) (nd : ([x1, x2, x3] : List Str).Nodup)
    (hkind : (([x1, x2, x3] : List Str).all fun y => scope.names.lookup y == some .local || scope.names.lookup y == some .cell) = true) (hsc : scopeOk scope = true) (hco : scope.isCoroutine = false) (hgen : scope.isGenerator = false) (hk : scope.kind = .function)
    (h : ∀ L A', A'.handled = A.handled → A'.depth = A.depth + 1 → A'.units = A.units + 3 → Exs C A' (mkE scope L (cellsFrom (L + 1) scope.names []) (qual ++ ".<locals>.") (some f) cdv (some L)) body [(x1, v1), (x2, v2), (x3, v3)] σ (fun g _ σ' => Q g.val σ') (fun _ _ => False)) :
    CodC C A (.ref f) [v1, v2, v3] σ Q :=
  CodC.def [x1, x2, x3] (args := [v1, v2, v3]) ho hcd hroom (fun vals hl => by obtain ⟨u1, t1, rfl, h1⟩ := lenS hl; obtain ⟨u2, t2, rfl, h2⟩ := lenS h1; obtain ⟨u3, t3, rfl, h3⟩ := lenS h2; obtain rfl := List.eq_nil_of_length_eq_zero h3; exact hbind u1 u2 u3) nd hkind hsc hco hgen hk h
theorem CallWP.cls {c fI : Addr} {args : List V} {Q : V → Store → Prop} (hm : makesIn C.K c = true) (hi : findIn C.K (.ref c) "__init__" = some (some (.ref fI))) (hf : typeIn C.K (.ref fI) = some (.type "function"))
    (h : ∀ a dx A', σ a = none → σ dx = none → a ≠ dx → A'.handled = A.handled → A'.depth = A.depth + 1 → A'.units ≤ A.units + 2 → CodC C A' (.ref fI) (.ref a :: args) ((σ.upd dx (.sd [])).upd a (.inst c dx)) (fun v σ' => v = .none ∧ Q (.ref a) σ')) :
    CallWP C A (.ref c) args σ Q X := by
  intro s vs S r
  obtain ⟨hh, g, d, t, os⟩ := s
  refine wpAny_call ?_
  obtain ⟨S2, e2⟩ := S.new (t := t) (x := emptyDict) (o := .sd []) ⟨[], Heap.DictOf.new _, .nil⟩
  have hsz := push_size hh emptyDict
  obtain ⟨S3, e3⟩ := S2.new (t := t) (x := instObj c hh.objs.size) (o := .inst c hh.objs.size) (Heap.get?_push_size _ rfl)
  dsimp only at S3 e3 hsz
  rw [hsz] at S3 e3
  have hne : hh.objs.size + 1 ≠ hh.objs.size := Nat.succ_ne_self _
  have hfr : σ (hh.objs.size + 1) = none := S.fresh' (Nat.le_succ _)
  refine make_core (makes_of S.K hm) (looks_findIn S.K hi) (fun self => bind_fn S.K self hf) (.inl rfl) ?_
  refine codeAny_mono (h (hh.objs.size + 1) hh.objs.size (A.under (.builtin "type.__call__" ⟨.ref c :: vs, []⟩)) hfr S.fresh hne rfl rfl (Nat.add_le_add_left (show (Code.builtin "type.__call__" ⟨.ref c :: vs, []⟩).cUnits ≤ 2 from Nat.le_of_ble_eq_true rfl) _) _ (.ref (hh.objs.size + 1) :: vs) S3 (.cons (.ref _) (r.mono (e2.trans e3).tup))) ?_
  rintro (e | f) s' z
  · exact z.elim
  · cases f <;> first | exact False.elim z | skip
    obtain ⟨x, σ', ⟨rfl, q⟩, rv, S', e'⟩ := z
    cases rv
    exact ⟨rfl, .ref _, σ', q, .ref _, S', (e2.trans e3).trans e'⟩

/- slices of lists -/
theorem pick_range {α : Type} (xs : List α) : ∀ (k n : Nat), k + n ≤ xs.length → ((List.range n).map fun i => k + i).filterMap (xs[·]?) = (xs.drop k).take n
  | k, 0, _ => by simp
  | k, n + 1, h => by
    have hk : k < xs.length := by (first | lia | omega)
    have ih := pick_range xs (k + 1) n (by (first | lia | omega))
    rw [List.range_succ_eq_map, List.map_cons, List.map_map, List.filterMap_cons]
    have e0 : xs[k + 0]? = some xs[k] := by simp [hk]
    rw [e0]
    have e1 : (List.range n).map ((fun i => k + i) ∘ Nat.succ) = (List.range n).map fun i => k + 1 + i := List.map_congr_left fun i _ => by simp only [Function.comp]; (first | lia | omega)
    rw [e1, ih, List.drop_eq_getElem_cons hk, List.take_succ_cons]

theorem pySlice_upto {α : Type} (xs : List α) (k : Nat) (h : k ≤ xs.length) : pySlice xs none (some (k : Int)) = xs.take k := by
  unfold pySlice
  have e : sliceBounds none (some (k : Int)) none xs.length = (((0 : Nat) : Int), ((k : Nat) : Int), 1) := by
    simp only [sliceBounds, Option.getD_none]
    have : ¬ ((k : Int) < 0) := by (first | lia | omega)
    simp [this]; (first | lia | omega)
  rw [e]
  simp only
  rw [sliceRange_one, pick_range xs 0 (k - 0) (by (first | lia | omega))]
  simp
/- dict.pop(key) -/
def idel (es : List (Int × V)) (k : Int) : List (Int × V) := es.filter fun p => !decide (p.1 = k)
end
end Mine

set_option autoImplicit false
set_option linter.unusedVariables false
set_option maxRecDepth 100000
set_option maxHeartbeats 4000000
namespace Mine
open PySem PySem.W PySem.SeqAt PyProof.Rows PySem.Calls

def CodeAt (h : Heap) (c : Addr) (q : Str) : Prop := ∃ o vs t, h.get? c = some o ∧ o.cls = .type "code" ∧ o.data = .fields vs ∧ vs[1]? = some (.str q t)
theorem CodeAt.mono {h h' : Heap} {c : Addr} {q : Str} (x : CodeAt h c q) (k : TupKeep h h') : CodeAt h' c q :=
  let ⟨o, vs, t, e, h1, h2, h3⟩ := x; ⟨o, vs, t, k _ _ (.inr (.inr ⟨h1, vs, h2⟩)) e, h1, h2, h3⟩
theorem CodeAt.rec' {h : Heap} {c : Addr} {q : Str} (x : CodeAt h c q) : h.CodeRec (.ref c) q :=
  let ⟨o, vs, t, e, h1, h2, h3⟩ := x; ⟨c, o, vs, t, rfl, e, h2, h3⟩
def LamAt (h : Heap) (f : Addr) (params : Arguments) (body : Expr) (scope : Scope) (clos : List (Str × Addr)) (q : Str) : Prop :=
  ∃ pm c' ctv, h.get? f = some (kla_obj "<lambda>" q params body scope clos pm c' ctv) ∧ CodeAt h c' q
def BMod (C : Cx) : Prop := ∃ bm ob, C.mg "__builtins__" = some (.ref bm) ∧ bm ≠ builtinsNs ∧ C.h₀.get? bm = some ob ∧ ob.cls = .type "module" ∧ ob.dict = some builtinsNs ∧ ob.data = .plain

section
variable {C : Cx} {A : Around} {env : Env} {ρ : Rho} {σ : Store} {X : XP} {s : Shared}
theorem LamAt.evo {σ' : Store} {h h' : Heap} {f : Addr} {params : Arguments} {body : Expr} {scope : Scope} {clos : List (Str × Addr)} {q : Str} (x : LamAt h f params body scope clos q) (e : Evo σ h σ' h') (hf : σ f = none) : LamAt h' f params body scope clos q :=
  let ⟨pm, c', ctv, ho, hc⟩ := x; ⟨pm, c', ctv, (e.keep _ _ ho hf).exact fun _ _ z => (by cases z), hc.mono e.tup⟩

theorem lam_make {E : XP} {c P : Addr} {params : Arguments} {body : Expr} {lsc : Scope} {lpos : Pos} {fl : Nat} {clos : List (Str × Addr)} {q : Str} {Q : Value → Shared → Prop} (S : St C σ s) (hcode : env.code = .ref c) (hg0 : env.globals = mainGlobals) (hcl : closureFor lsc env = pure clos)
    (Cd : CodeHd C.h₀ c P) (hP : σ P = some (.tab lpos q)) (hB : BMod C)
    (h : ∀ f s2, St C σ s2 → Evo σ s.heap σ s2.heap → σ f = none → LamAt s2.heap f params body lsc clos q → Q (.ref f) s2) :
    wpAny C.M A (makeFunction "<lambda>" q params (.expr body) lsc env [] [] [] lpos fl) Q E s := by
  have hg : s.heap.Ns mainGlobals C.mg := C.hg.keeps S.base
  have Cs := Cd.keeps S.base
  obtain ⟨bm, ob, b1, b2, b3, b4, b5, b6⟩ := hB
  have hPb : C.h₀.get? P = none := (S.above _ _ hP).1
  have hbP : bm ≠ P := fun z => by rw [z, hPb] at b3; cases b3
  have hbG : bm ≠ mainGlobals := fun z => by
    obtain ⟨o, es, ep, e, hd, _⟩ := C.hg
    rw [z, e] at b3; cases b3; rw [hd] at b6; cases b6
  have hgP : mainGlobals ≠ P := fun z => by
    obtain ⟨o, es, ep, e, hd, _⟩ := C.hg
    rw [z, hPb] at e; cases e
  have hbs := S.base _ _ b3
  rcases S.rep _ _ hP with e | ⟨c', o, vs, t, e, e2, h1, h2, h3⟩
  · have fin : ∀ c' ctv h' tk, Heap.ExtBut P s.heap h' → s.heap.objs.size ≤ c' → CodeAt h' c' q → h'.get? P = some (tabObj (#[] ++ #[rawInt lpos.line, rawInt lpos.col, .ref c'])) →
        Q (.ref h'.objs.size) { s with heap := h'.push (kla_obj "<lambda>" q params body lsc clos ((C.mg "__name__").getD .none) c' ctv), toks := tk } := fun c' ctv h' tk hx hge hc hp => by
      have kp : ∀ b o, ¬ b = P → s.heap.get? b = some o → h'.get? b = some o := fun b o z w => hx b o z w
      have nt : ∀ b o, b = P → s.heap.get? b = some o → ¬ Imm o := fun b o z => by subst z; exact (S.rep _ _ hP).notTup o
      have tk' : TupKeep s.heap h' := tk_ow (ow := fun b => b = P) kp nt
      have S1 : St C σ { s with heap := h', toks := tk } := by
        refine ⟨fun b o w => kp b o (fun z => by rw [z, hPb] at w; cases w) (S.base b o w), fun a o w => ?_, S.above, S.gens, S.os⟩
        by_cases z : a = P
        · subst z
          rw [hP] at w; cases w
          obtain ⟨oc, vs, t, z1, z2, z3, z4⟩ := hc
          exact .inr ⟨c', oc, vs, t, by simpa using hp, z1, z2, z3, z4⟩
        · exact (S.rep a o w).at (fun x hx' => kp a x z hx') tk'
      have e1 : Evo σ s.heap σ h' := ⟨fun b o w n => .inl (kp b o (fun z => by rw [z, hP] at n; cases n) w), fun b o w => .inl ⟨o, w⟩, fun b o w => ⟨o, w⟩, tk'⟩
      have hsz : s.heap.objs.size ≤ h'.objs.size := by
        have : c' < h'.objs.size := by obtain ⟨oc, _, _, z1, _⟩ := hc; exact Heap.lt_size z1
        exact Nat.le_trans hge (Nat.le_of_lt this)
      exact h _ _ S1.push (e1.trans .push) (S.fresh' hsz) ⟨_, c', ctv, Heap.get?_push_size _ rfl, hc.mono fun _ _ _ w => Heap.get?_push_of_some _ w⟩
    have codeAt : ∀ {h' : Heap} {c' P' : Addr}, h'.CodeRec (.ref c') q → h'.TableAt c' P' #[] → CodeAt h' c' q := fun {h' c' P'} hr ht => by
      obtain ⟨_, oc, vs, t, z, z1, z2, z3⟩ := hr
      cases z
      obtain ⟨⟨o', vs', y1, y2, _⟩, _⟩ := ht
      rw [z1] at y1; cases y1
      exact ⟨_, vs, t, z1, y2, z2, z3⟩
    rw [makeFunction_eq]
    simp only [List.zip_nil_right, List.filterMap_nil, List.isEmpty_nil, if_true, pure_bind]
    unfold makeTail
    rw [hcl, hg0]
    refine wpAny_bind (wpAny_pure ?_)
    cases clos with
    | nil =>
      simp only [List.isEmpty_nil, if_true]
      refine wpAny_bind (wpAny_pure ?_)
      refine wpAny_bind (wpAny_functionCodeX hcode (Cs.code e trivial) (Cs.tab e) rfl fun c' h' tk hx hge hlt _ hrec htb hnew => ?_)
      have hg' := hg.extBut hx hgP
      refine wpAny_bind (wpAny_builtinsFor hg' b1 b2 (hx _ _ hbP hbs) b4 b5 b6 ?_)
      refine wpAny_bind (wpAny_nsGet hg' ?_)
      obtain ⟨P', _, _, ht'⟩ := hnew
      exact wpAny_bind (wpAny_pure (wpAny_newObj_type (fin c' .none h' tk hx hge (codeAt hrec ht') htb.2) (by size_fits)))
    | cons q0 r =>
      simp only [List.isEmpty_cons, Bool.false_eq_true, if_false]
      refine wpAny_bind (wpAny_newTextTuple ?_)
      refine wpAny_bind (wpAny_functionCodeX hcode ((Cs.keeps fun b o e => Heap.get?_push_of_some _ e).code (Heap.get?_push_of_some _ e) trivial) ((Cs.keeps fun b o e => Heap.get?_push_of_some _ e).tab (Heap.get?_push_of_some _ e)) rfl fun c' h' tk hx hge hlt _ hrec htb hnew => ?_)
      have hg' := (hg.push _).extBut hx hgP
      have hx' : Heap.ExtBut P s.heap h' := fun b o hb' e => hx b o hb' (Heap.get?_push_of_some _ e)
      have hge' : s.heap.objs.size ≤ c' := Nat.le_trans (by rw [Heap.size_push]; (first | lia | omega)) hge
      refine wpAny_bind (wpAny_builtinsFor hg' b1 b2 (hx' _ _ hbP hbs) b4 b5 b6 ?_)
      refine wpAny_bind (wpAny_nsGet hg' ?_)
      obtain ⟨P', _, _, ht'⟩ := hnew
      exact wpAny_bind (wpAny_pure (wpAny_newObj_type (fin c' _ h' tk hx' hge' (codeAt hrec ht') htb.2) (by size_fits)))
  · refine kla_makeFunctionHit (mg := C.mg) (cv := .ref c') hcl hg0 hg hcode Cs e (by simp [TriplesOk, rawInt]) (by simp [codeAmong, rawInt]) ⟨bm, ob, b1, b2, hbG, hbP, hbs, b4, b5, b6⟩ fun ctv h' tk hk hsz => ?_
    have S1 : St C σ { s with heap := h', toks := tk } := S.ext hk
    exact h _ _ S1.push ((Evo.ext hk).trans .push) (S.fresh' hsz) ⟨_, c', ctv, Heap.get?_push_size _ rfl, o, vs, t, Heap.get?_push_of_some _ (hk _ _ e2), h1, h2, h3⟩

def lamOk (scope : Scope) : Bool := scope.names.all fun p => p.2 != .cell && (p.2 != .free || scope.names.lookup p.1 == some .free)
theorem lam_call {params : Arguments} {body : Expr} {lsc : Scope} {q pn : Str} {f : Addr} {v : Value} {x : V} {ρc : Rho} {E : XP} {Q : V → Store → Prop} (S : St C σ s) (F : Fm C σ s.heap env ρ) (hf : LamAt s.heap f params body lsc (clOf env.cells lsc.names []) q) (rv : VR s.heap v x) (hroom : A.depth < recursionLimit)
    (hbind : ∀ pm cdv ctv, bindArgs (kla_fn "<lambda>" q params body lsc (clOf env.cells lsc.names []) pm cdv ctv) ⟨[v], []⟩ = pure [(pn, v)]) (hco : lsc.isCoroutine = false) (hgen : lsc.isGenerator = false) (hk : lsc.kind = .function) (hpn : lsc.names.lookup pn = some .local)
    (hok : lamOk lsc = true) (hfree : (lsc.names.all fun p => p.2 != .free || (env.cells.lookup p.1).isSome) = true) (cap : Capt ρ lsc.names ρc)
    (h : ∀ L' cdv A', A'.handled = A.handled → A'.units ≤ A.units + 3 → Ev C A' (mkE lsc L' (clOf env.cells lsc.names []) (q ++ ".<locals>.") (some f) cdv (some L')) body ((pn, x) :: ρc) σ Q (fun _ _ => False)) :
    wpAny C.M A (call (.ref f) [v]) (EP C σ s.heap Q) E s := by
  have names_of : ∀ p ∈ lsc.names, p.2 ≠ .cell ∧ (p.2 = .free → lsc.names.lookup p.1 = some .free) := fun p hp => by
    have := List.all_eq_true.mp hok p hp
    simp only [Bool.and_eq_true, bne_iff_ne, ne_eq, Bool.or_eq_true, beq_iff_eq] at this
    refine ⟨this.1, fun e => ?_⟩
    rcases this.2 with z | z
    · exact absurd e z
    · exact z
  have cl_of : ∀ y c, (clOf env.cells lsc.names []).lookup y = some c → env.cells.lookup y = some c ∧ lsc.names.lookup y = some .free := fun y c hy => by
    rcases clOf_mem (mem_of_lookup hy) with z | ⟨z, e⟩
    · cases z
    · have h1 := List.all_eq_true.mp hfree _ z
      have h2 : (env.cells.lookup y).isSome = true := by simpa using h1
      obtain ⟨c', hc'⟩ := Option.isSome_iff_exists.mp h2
      rw [hc'] at e
      exact ⟨by rw [hc', e]; rfl, (names_of _ z).2 rfl⟩
  obtain ⟨pm, c', ctv, ho, hcd⟩ := hf
  refine wpAny_call (kla_callFunE hroom ho rfl hco hgen rfl hcd.rec' ?_)
  rw [hbind]
  refine wpAny_pure (wpAny_newFunctionEnv (fun p hp => (names_of p hp).1) (fun y hy => by rw [List.mem_singleton.mp hy]; exact hpn) (fun h₁ hns hsb => ⟨((C.lim).keeps S.base).fresh _ hsb, ?_⟩) hk)
  have kp : ∀ b o, s.heap.get? b = some o → h₁.get? b = some o := fun b o e => hsb.extBut b o (Nat.ne_of_lt (Heap.lt_size e)) (Heap.get?_push_of_some _ e)
  have e1 : Evo σ s.heap σ h₁ := .ext kp
  have F1 := F.evo e1
  have F2 : Fm C σ h₁ (mkE lsc s.heap.objs.size (clOf env.cells lsc.names []) (q ++ ".<locals>.") (some f) (.ref c') (some s.heap.objs.size)) ((pn, x) :: ρc) := by
    refine ⟨hk, ⟨_, hns, fun y w hy hw => ?_⟩, S.fresh, S.size, fun y c hy => ?_, fun y c hy => ?_, fun y z c hy hz => ?_⟩
    · have hw' : (if y = pn then some x else Rho.get ρc y) = some w := hw
      by_cases z : y = pn
      · subst z
        rw [if_pos rfl] at hw'; cases hw'
        exact ⟨v, by simp [List.lookup], rv.mono e1.tup⟩
      · rw [if_neg z] at hw'
        have h1 := (names_of _ (cap.get hw').2).2 rfl
        have h2 : lsc.names.lookup y = some .local := hy
        rw [h1] at h2; cases h2
    · obtain ⟨h1, h2⟩ := cl_of y c hy
      obtain ⟨ov, a, b⟩ := F1.cell y c h1
      refine ⟨ov, a, fun w hw => ?_⟩
      have hw' : (if y = pn then some x else Rho.get ρc y) = some w := hw
      by_cases z : y = pn
      · rw [z, hpn] at h2; cases h2
      · rw [if_neg z] at hw'
        exact b w (cap.get hw').1
    · obtain ⟨h1, _⟩ := cl_of y c hy
      obtain ⟨n1, n2, n3⟩ := F.ncell y c h1
      obtain ⟨ov, a, b⟩ := F.cell y c h1
      exact ⟨n1, Nat.ne_of_lt a.lt, n3⟩
    · exact F.apart y z c (cl_of y c hy).1 (cl_of z c hz).1
  refine kla_codeExpr (wpAny_mono (h s.heap.objs.size (.ref c') (A.deeper (mkE lsc s.heap.objs.size (clOf env.cells lsc.names []) (q ++ ".<locals>.") (some f) (.ref c') (some s.heap.objs.size))) rfl (Nat.le_refl _) { s with heap := h₁, toks := s.toks + 1 } (S.ext (t := s.toks + 1) kp) F2) (fun w s' z => ?_) fun _ _ z => z.elim)
  exact z.after e1

theorem ints_get {ks : List Int} {vs : List Value} (h : IntsAre vs ks) {i : Nat} (hi : i < vs.length) : ∃ t, vs.getD i Value.none = .int (ks.getD i 0) t := by
  induction h generalizing i with
  | nil => simp at hi
  | cons a u r ih =>
    cases i with
    | zero => exact ⟨u, rfl⟩
    | succ i => simpa using ih (i := i) (by simpa using hi)

/-- sorted(l, key=f) -/
theorem sorted_key {l f : Addr} {xs : List V} {key : V → Int} {params : Arguments} {body : Expr} {lsc : Scope} {clos : List (Str × Addr)} {q : Str} {Q : V → Store → Prop} (S : St C σ s) (F : Fm C σ s.heap env ρ) (hl : LstAt C σ l xs) (h64 : xs.length < 64) (hfn : σ f = none) (hL : LamAt s.heap f params body lsc clos q)
    (turn : ∀ x ∈ xs, ∀ s2 v, St C σ s2 → Fm C σ s2.heap env ρ → LamAt s2.heap f params body lsc clos q → VR s2.heap v x → wpAny C.M A.in1.in1 (call (.ref f) [v]) (EP C σ s2.heap (fun k σ3 => σ3 = σ ∧ k = .int (key x))) (fun _ _ => False) s2)
    (h : ∀ (a : Addr) (p : List Nat), σ a = none → p.Perm (List.range xs.length) → p.Pairwise (slt fun i j => decide (key (xs.getD i .none) < key (xs.getD j .none))) → Q (.ref a) (σ.upd a (.list (p.map fun i => xs.getD i .none)))) :
    wpAny C.M A (call (.builtin "sorted") [.ref l] [(Str.ofString "key", .ref f)]) (EP C σ s.heap Q) X s := by
  obtain ⟨⟨vs⟩, il, rl⟩ := hl.raw S
  simp only at rl
  have el := rl.length
  refine call_function_entry_kw kind_sorted plain_sorted entry_sorted (ksk_s1 _ _) ?_
  unfold Builtin.«sorted»
  refine wpAny_bind (m := checkCount "sorted" 1 1 _) (wpAny_pure ?_)
  refine wpAny_bind (collect_list il ?_ (by rw [sizeLine_eq]; (first | lia | omega)))
  refine wpAny_bind (wpAny_newList ?_ (by rw [sizeLine_eq]; (first | lia | omega)))
  have hsz : ((s.heap.push (seqObj "list" #[] 0)).update s.heap.objs.size (Obj.mapSeq (· ++ vs.toArray))).objs.size = s.heap.objs.size + 1 := by
    rw [Heap.size_update, size_push']
  generalize hH : ((s.heap.push (seqObj "list" #[] 0)).update s.heap.objs.size (Obj.mapSeq (· ++ vs.toArray))).push (seqObj "list" vs.toArray 0) = H
  have hHs : H.objs.size = s.heap.objs.size + 2 := by rw [← hH, size_push', hsz]
  have hoL : H.get? (s.heap.objs.size + 1) = some (seqObj "list" vs.toArray 0) := by
    rw [← hH, ← hsz]; exact Heap.get?_push_size _ rfl
  have keep : ∀ b o, s.heap.get? b = some o → H.get? b = some o := fun b o q => by
    have hlt : b < s.heap.objs.size := Heap.lt_size q
    rw [← hH, Heap.get?_push_ne _ _ _ (by rw [hsz]; exact Nat.ne_of_lt (Nat.lt_succ_of_lt hlt)), Heap.get?_update_ne _ _ _ _ (Nat.ne_of_lt hlt), Heap.get?_push_ne _ _ _ (Nat.ne_of_lt hlt)]
    exact q
  have old : ∀ b o, s.heap.get? b = some o → b ≠ s.heap.objs.size + 1 := fun b o e => Nat.ne_of_lt (Nat.lt_succ_of_lt (Heap.lt_size e))
  show wpAny _ _ _ _ _ { s with heap := H }
  rw [hsz]
  generalize hLL : s.heap.objs.size + 1 = LL at *
  have hLsz : s.heap.objs.size ≤ LL := by (first | lia | omega)
  refine wpAny_bind (wpAny_holding (wpAny_call_entry_kw slot_list_sort ⟨_, hoL, rfl⟩ entry_list_sort ?_ (ksk_l1 _ _)))
  rw [ksk_t1]
  unfold ksk_tree
  refine wpAny_bind (listItems_at hoL rfl ?_)
  refine wpAny_bind (listUpdate_at hoL rfl ?_ (by rw [List.size_toArray, sizeLine_eq]; (first | lia | omega)) (Nat.zero_le _))
  obtain ⟨e1, ho1⟩ : ∃ e1, (H.update LL (Obj.mapSeq fun _ => (#[] : Array Value))).get? LL = some (seqObj "list" #[] e1) := ⟨_, get?_update_seq hoL fun _ => #[]⟩
  refine wpAny_bind (seqEpoch_at ho1 rfl ?_)
  refine wpAny_bind (wpAny_newTuple ?_ (by show vs.length ≤ _; rw [sizeLine_eq]; (first | lia | omega)))
  refine wpAny_bind (wpAny_newList ?_ (Nat.zero_le _))
  have hks : ((H.update LL (Obj.mapSeq fun _ => (#[] : Array Value))).push (seqObj "tuple" vs.toArray 0)).objs.size = s.heap.objs.size + 3 := by rw [size_push', Heap.size_update, hHs]
  generalize hG : ((H.update LL (Obj.mapSeq fun _ => (#[] : Array Value))).push (seqObj "tuple" vs.toArray 0)).push (seqObj "list" #[] 0) = G
  have hGL : G.get? LL = some (seqObj "list" #[] e1) := by rw [← hG]; exact Heap.get?_push_of_some _ (Heap.get?_push_of_some _ ho1)
  have hGk : G.get? (s.heap.objs.size + 3) = some (seqObj "list" #[] 0) := by rw [← hG, ← hks]; exact Heap.get?_push_size _ rfl
  have hGo : ∀ b o, s.heap.get? b = some o → G.get? b = some o := fun b o e => by
    rw [← hG]; exact Heap.get?_push_of_some _ (Heap.get?_push_of_some _ ((Heap.get?_update_other _ _ (Ne.symm (old b o e))).trans (keep b o e)))
  refine wpAny_holding ?_
  show wpAny _ _ (ksk_rest LL (.ref f) false vs.toArray e1 (.ref _)) _ _ { s with heap := G }
  rw [hks]
  generalize hkS : s.heap.objs.size + 3 = kS at *
  have hKs : s.heap.objs.size ≤ kS := by (first | lia | omega)
  have hKL : kS ≠ LL := by (first | lia | omega)
  have hσL : σ LL = none := S.fresh' hLsz
  have hσk : σ kS = none := S.fresh' hKs
  have oldk : ∀ b o, s.heap.get? b = some o → b ≠ kS := fun b o e z => by have := Heap.lt_size e; rw [z] at this; exact absurd this (Nat.not_lt.mpr hKs)
  have frk : C.h₀.get? kS = none := by
    cases z : C.h₀.get? kS with
    | none => rfl
    | some o => exact absurd rfl (oldk _ _ (S.base _ _ z))
  have frL : C.h₀.get? LL = none := by
    cases z : C.h₀.get? LL with
    | none => rfl
    | some o => exact absurd rfl (old _ _ (S.base _ _ z))
  unfold ksk_rest
  refine wpAny_bind (wpAny_rule ?_)
  first
    | rw [List.forIn_toArray]
    | (rw [← Array.forIn_toList]; simp only [List.toList_toArray])
    | rw [← Array.forIn_toList]
  refine wpAny_bind (ksk_fold (fun i s' => ∃ kA e, St C σ s' ∧ Evo σ s.heap σ s'.heap ∧ s'.heap.get? LL = some (seqObj "list" #[] e1) ∧ s'.heap.get? kS = some (seqObj "list" kA e) ∧ IntsAre kA.toList ((xs.take i).map key)) vs 0 { s with heap := G }
    ⟨#[], 0, S.ext (t := s.toks) hGo, .ext hGo, hGL, hGk, by simpa using IntsAre.nil⟩ ?step ?done)
  case step =>
    rintro j x s' hx ⟨kA, e, S', E', hL', hk', hI⟩
    simp only [Nat.zero_add] at hI ⊢
    obtain ⟨y, hy, ry⟩ := rl.get' hx
    have hj : j < xs.length := (List.getElem?_eq_some_iff.mp hy).1
    have hzk : kA.size ≤ 64 := by
      have h1 := hI.length
      simp only [Array.length_toList, List.length_map, List.length_take] at h1
      (first | lia | omega)
    refine wpAny_bind (wpAny_attempt (wpAny_mono (turn y (List.mem_of_getElem? hy) s' x S' (F.evo E') (hL.evo E' hfn) (ry.mono E'.tup)) (fun k s'' he => ?_) fun _ _ hF => hF.elim))
    obtain ⟨kx, σ3, ⟨rfl, rfl⟩, rk, S2, E2⟩ := he
    cases rk
    rename_i tk
    have hL2 := (E2.keep _ _ hL' hσL).exact fun _ _ z => (by cases z)
    have hk2 := (E2.keep _ _ hk' hσk).exact fun _ _ z => (by cases z)
    obtain ⟨c2, hc2⟩ : ∃ c2, (s''.heap.update kS (Obj.mapSeq (·.push (Value.int (key y) tk)))).get? kS = some (seqObj "list" (kA.push (.int (key y) tk)) c2) := ⟨_, get?_update_seq hk2 (·.push (.int (key y) tk))⟩
    try dsimp only
    refine wpAny_bind (listUpdate_at hk2 rfl ?_ (by rw [sizeLine_eq]; (first | lia | omega)) (Nat.le_trans (Nat.le_of_eq (Array.size_push ..)) (by rw [sizeLine_eq]; (first | lia | omega))))
    have kp : ∀ b o, ¬ b = kS → s''.heap.get? b = some o → (s''.heap.update kS (Obj.mapSeq (·.push (Value.int (key y) tk)))).get? b = some o := fun b o z w => (Heap.get?_update_other _ _ (Ne.symm z)).trans w
    have nt : ∀ b o, b = kS → s''.heap.get? b = some o → ¬ Imm o := fun b o z w => by subst z; rw [hk2] at w; cases w; exact Imm.not (by simp) (by simp) (by simp)
    refine wpAny_pure ⟨rfl, kA.push (.int (key y) tk), c2, S2.ow (t := s''.toks) (ow := fun b => b = kS) kp nt (fun b z => z ▸ hσk) (fun b z => z ▸ frk), (E'.trans E2).ow (ow := fun b => b = kS) kp (fun b z => ?_), kp _ _ (Ne.symm hKL) hL2, hc2, ?_⟩
    · subst z; exact get?_fresh' hKs
    · have ea : (kA.push (Value.int (key y) tk)).toList = kA.toList ++ [Value.int (key y) tk] := by simp
      rw [ea, List.take_add_one, hy]
      simpa using ksk_snoc hI
  case done =>
    rintro s' ⟨kA, e, S', E', hL', hk', hI⟩
    have hI' : IntsAre kA.toList (xs.map key) := by
      rwa [List.take_of_length_le (by (first | lia | omega))] at hI
    have hkl : kA.toList.length = vs.length := by rw [hI'.length, List.length_map, el]
    have hks2 : kA.size = vs.length := by simpa using hkl
    try dsimp only
    refine wpAny_bind (listItems_at hk' rfl ?_)
    have fin : ∀ (p : List Nat) (st : SortSt), (arrOf st).map (·.2) = (p.map fun i => vs.getD i Value.none).toArray → failedOf st = none → p.Perm (List.range vs.length) → p.Pairwise (slt fun i j => decide ((xs.map key).getD i 0 < (xs.map key).getD j 0)) →
        wpAny C.M A.in1.in1 (ksk_tail LL false e1 (.ref kS) st) (fun fin s' => ∃ v, fin = .done (.ret v) ∧ (fun _ s' => wpAny C.M A.in1 (pure (PySem.Fin.done (.ret (.ref LL)))) (fun fin s' => ∃ v, fin = .done (.ret v) ∧ EP C σ s.heap Q v s') X s') v s') X s' := by
      intro p st hout hf hp hs
      have hlen : p.length = vs.length := by simpa using hp.length_eq
      unfold ksk_tail
      try dsimp only
      refine wpAny_bind (listUpdate_at hk' rfl ?_ (by rw [sizeLine_eq]; (first | lia | omega)) (Nat.zero_le _))
      refine wpAny_bind (wpAny_letGo ?_)
      have hL2 : (s'.heap.update kS (Obj.mapSeq fun _ => (#[] : Array Value))).get? LL = some (seqObj "list" #[] e1) := (Heap.get?_update_other _ _ hKL).trans hL'
      refine wpAny_bind (seqEpoch_at hL2 rfl ?_)
      rw [hout, hf]
      simp only [Bool.false_eq_true, if_false, bne_self_eq_false]
      refine wpAny_bind (listUpdate_at hL2 rfl ?_ (Nat.zero_le _) (by rw [List.size_toArray, List.length_map, hlen, sizeLine_eq]; (first | lia | omega)))
      refine wpAny_pure ⟨_, rfl, wpAny_pure ⟨_, rfl, ?_⟩⟩
      have kp : ∀ b o, ¬ (b = kS ∨ b = LL) → s'.heap.get? b = some o → ((s'.heap.update kS (Obj.mapSeq fun _ => (#[] : Array Value))).update LL (Obj.mapSeq fun _ => (p.map fun i => vs.getD i Value.none).toArray)).get? b = some o := fun b o z w =>
        (Heap.get?_update_other _ _ (fun y => z (.inr y.symm))).trans ((Heap.get?_update_other _ _ (fun y => z (.inl y.symm))).trans w)
      have nt : ∀ b o, (b = kS ∨ b = LL) → s'.heap.get? b = some o → ¬ Imm o := fun b o z w => by
        rcases z with rfl | rfl
        · rw [hk'] at w; cases w; exact Imm.not (by simp) (by simp) (by simp)
        · rw [hL'] at w; cases w; exact Imm.not (by simp) (by simp) (by simp)
      have S3 : St C σ { s' with heap := (s'.heap.update kS (Obj.mapSeq fun _ => (#[] : Array Value))).update LL (Obj.mapSeq fun _ => (p.map fun i => vs.getD i Value.none).toArray), toks := s'.toks } :=
        S'.ow (ow := fun b => b = kS ∨ b = LL) kp nt (fun b z => by rcases z with rfl | rfl <;> assumption) (fun b z => by rcases z with rfl | rfl <;> assumption)
      have E3 : Evo σ s.heap σ ((s'.heap.update kS (Obj.mapSeq fun _ => (#[] : Array Value))).update LL (Obj.mapSeq fun _ => (p.map fun i => vs.getD i Value.none).toArray)) := E'.ow (ow := fun b => b = kS ∨ b = LL) kp (fun b z => by
        rcases z with rfl | rfl
        · exact get?_fresh' hKs
        · exact get?_fresh' hLsz)
      have bound : ∀ i ∈ p, i < vs.length := fun i hi => by simpa using hp.mem_iff.mp hi
      have rr : ∀ u : List Nat, (∀ i ∈ u, i < vs.length) → VRs s.heap (u.map fun i => vs.getD i Value.none) (u.map fun i => xs.getD i .none) := fun u => by
        induction u with
        | nil => exact fun _ => .nil
        | cons i u ih =>
          intro hb
          have hi : i < vs.length := hb i (.head _)
          obtain ⟨w, hw, rw'⟩ := rl.get (i := i) (y := xs.getD i .none) (by have hi' : i < xs.length := by (first | lia | omega)
                                                                            simp [hi'])
          have : w = vs.getD i Value.none := by simp [hw, List.getD]
          exact .cons (show VR s.heap (vs.getD i Value.none) (xs.getD i .none) from this ▸ rw') (ih fun j hj => hb j (.tail _ hj))
      obtain ⟨S4, E4⟩ := S3.adopt (a := LL) (o := .list (p.map fun i => xs.getD i .none)) (σ0 := σ) (h0 := s.heap) ⟨_, ⟨_, get?_update_seq hL2 fun _ => _⟩, by simpa using (rr p bound).mono E3.tup⟩ (Nat.le_trans S.size hLsz) E3 (get?_fresh' hLsz)
      refine ⟨.ref LL, _, h LL p hσL (el ▸ hp) (hs.imp_of_mem fun {i j} hi hj z => ?_), .ref _, S4, E4⟩
      have g : ∀ i, i < vs.length → (xs.map key).getD i 0 = key (xs.getD i .none) := fun i hi => by
        have hi' : i < xs.length := by (first | lia | omega)
        simp [hi']
      unfold slt at z ⊢
      dsimp only at z ⊢
      rw [g i (bound i hi), g j (bound j hj)] at z
      exact z
    unfold ksk_end
    try dsimp only
    simp only [Bool.false_eq_true, if_false]
    by_cases h2 : vs.toArray.size < 2
    · rw [if_pos h2, if_pos h2]
      rw [List.size_toArray] at h2
      refine wpAny_bind (wpAny_pure ?_)
      rw [StateT.run_pure]
      refine wpAny_bind (wpAny_pure ?_)
      refine fin (List.range vs.length) _ ?_ rfl (List.Perm.refl _) ?_
      · show (kA.zip vs.toArray).map (·.2) = _
        apply Array.toList_inj.mp
        refine List.ext_getElem (by simp [hks2]) fun i h1 h2 => ?_
        simp at h2
        simp [h2]
      · match vs, h2 with
        | [], _ => exact .nil
        | [v], _ => exact .cons (fun _ q => (nomatch q)) .nil
        | _ :: _ :: _, h2 => simp at h2; (first | lia | omega)
    · rw [if_neg h2, if_neg h2]
      rw [List.size_toArray] at h2
      rw [ksk_kind hI' (by (first | lia | omega))]
      refine wpAny_bind (wpAny_pure ?_)
      have run : (kas_sort vs.length).kasWp (kas_ask C.prog C.w A.in1.in1 oneType' kA.toList) (fun p s2 => s2 = s' ∧ p.toList.Perm (List.range vs.length) ∧ p.toList.Pairwise (slt fun i j => decide ((xs.map key).getD i 0 < (xs.map key).getD j 0))) s' := by
        refine sort_ok (intSWO fun i => (xs.map key).getD i 0) (fun i j C hi hj hC => ?_) (by (first | lia | omega)) fun P' hp hs => ⟨rfl, hp, hs⟩
        obtain ⟨t1, z1⟩ := ints_get hI' (i := i) (by (first | lia | omega))
        obtain ⟨t2, z2⟩ := ints_get hI' (i := j) (by (first | lia | omega))
        unfold kas_ask
        rw [z1, z2]
        exact kat_lt_int hC
      refine wpAny_bind (wpAny_mono (kat_run (ks := kA.toList) (vs := vs) (Q := fun st' s2 => s2 = s' ∧ ∃ p : Array Nat, arrOf st' = p.map (kas_item (kA.toList.toArray.zip vs.toArray)) ∧ failedOf st' = none ∧ p.toList.Perm (List.range vs.length) ∧ p.toList.Pairwise (slt fun i j => decide ((xs.map key).getD i 0 < (xs.map key).getD j 0)))
        hkl (by (first | lia | omega)) (by (first | lia | omega)) (fun p st' s2 a1 a2 a3 a4 => ⟨a4.1, p, a2, a3, a4.2⟩) run) ?_ fun _ _ e => e)
      rintro ⟨⟨⟩, st'⟩ s2 ⟨rfl, p, har, hf, hp, hs⟩
      exact fin p.toList st' (kat_snds hkl har) hf hp hs
end
end Mine

set_option autoImplicit false
set_option linter.unusedVariables false
set_option maxRecDepth 100000
set_option maxHeartbeats 4000000
namespace Mine
open PySem PySem.W PySem.SeqAt PyProof.Rows PySem.Calls
section
variable {C : Cx} {A : Around} {ρ : Rho} {σ : Store} {X : XP} {s : Shared}
theorem Ags.one {env : Env} {e : Expr} {pos : Pos} {R : V → Store → Prop} (h : Ev C A env e ρ σ R X) (he : starEach [e] env = (false, eval e env) :: starEach [] env) : Ags C A env pos [e] ρ σ (fun vs σ1 => ∃ v, vs = [v] ∧ R v σ1) X :=
  Ags.cons (h.mono' fun v σ1 p => Ags.nil ⟨v, rfl, p⟩) he
/-- sorted(e, key=lambda pn: body) -/
theorem Ev.sortLam {sc lsc : Scope} {L c P : Addr} {cells : List (Str × Addr)} {q0 pn : Str} {fn : Option Addr} {fr : Option Addr} {e body : Expr} {params : Arguments} {lpos kp pos p1 : Pos} {ρc : Rho} {Q : V → Store → Prop}
    (Cd : CodeHd C.h₀ c P) (hB : BMod C) (hroom : A.depth < recursionLimit)
    (hs : sc.names.lookup (Str.ofString "sorted") = some .globalImplicit) (hsk : nsIn C.K mainGlobals (Str.ofString "sorted") = some none) (cap : Capt ρ lsc.names ρc)
    (hdef : defaultsOf params (mkE sc L cells q0 fn (.ref c) fr) = ([], []))
    (hbind : ∀ v cl pm cdv ctv, bindArgs (kla_fn "<lambda>" (q0 ++ "<lambda>") params body lsc cl pm cdv ctv) ⟨[v], []⟩ = pure [(pn, v)]) (hco : lsc.isCoroutine = false) (hgen : lsc.isGenerator = false) (hk : lsc.kind = .function) (hpn : lsc.names.lookup pn = some .local)
    (hok : lamOk lsc = true) (hfree : (lsc.names.all fun p => p.2 != .free || (cells.lookup p.1).isSome) = true)
    (hev : eval (.Call (.Name (Str.ofString "sorted") p1) [e] [⟨some (Str.ofString "key"), .Lambda params body lsc lpos, kp⟩] pos) (mkE sc L cells q0 fn (.ref c) fr) =
      (do callWith pos (← eval (.Name (Str.ofString "sorted") p1) (mkE sc L cells q0 fn (.ref c) fr)) [] (backTo pos (starEach [e] (mkE sc L cells q0 fn (.ref c) fr))) (backToKw pos (keywordEach [⟨some (Str.ofString "key"), .Lambda params body lsc lpos, kp⟩] (mkE sc L cells q0 fn (.ref c) fr)))))
    (hst : starEach [e] (mkE sc L cells q0 fn (.ref c) fr) = (false, eval e (mkE sc L cells q0 fn (.ref c) fr)) :: starEach [] (mkE sc L cells q0 fn (.ref c) fr))
    (h : Ev C A (mkE sc L cells q0 fn (.ref c) fr) e ρ σ (fun v σ1 => ∃ (l : Addr) (xs : List V) (key : V → Int), v = .ref l ∧ LstAt C σ1 l xs ∧ xs.length < 64 ∧ σ1 P = some (.tab lpos (q0 ++ "<lambda>")) ∧
      (∀ x ∈ xs, ∀ L' f cdv A', A'.handled = A.handled → A'.units ≤ A.units + 6 → Ev C A' (mkE lsc L' (clOf cells lsc.names []) (q0 ++ "<lambda>" ++ ".<locals>.") (some f) cdv (some L')) body ((pn, x) :: ρc) σ1 (fun k σ3 => σ3 = σ1 ∧ k = .int (key x)) (fun _ _ => False)) ∧
      ∀ (a : Addr) (p : List Nat), σ1 a = none → p.Perm (List.range xs.length) → p.Pairwise (slt fun i j => decide (key (xs.getD i .none) < key (xs.getD j .none))) → Q (.ref a) (σ1.upd a (.list (p.map fun i => xs.getD i .none)))) X) :
    Ev C A (mkE sc L cells q0 fn (.ref c) fr) (.Call (.Name (Str.ofString "sorted") p1) [e] [⟨some (Str.ofString "key"), .Lambda params body lsc lpos, kp⟩] pos) ρ σ Q X := by
  intro s S F
  rw [hev]
  refine wpAny_bind (wpAny_mono (Ev.nblt (Q := fun x σ1 => x = .blt "sorted" ∧ σ1 = σ) hs hsk PyProof.Rows.Boot.sorted (.blt _) ⟨rfl, rfl⟩ (by decide) rfl s S F) ?_ fun _ _ z => z)
  rintro v0 s0 ⟨x0, σ0, ⟨rfl, rfl⟩, r0, S0, e0⟩
  cases r0
  refine callWith_of (P := fun h => ∀ b o, C.h₀.get? b = some o → h.get? b = some o) (by rw [hst]; rfl) Kp.blt ?_
  refine evalArgs_kw2 rfl ?_ hst
  refine wpAny_mono (Ags.one (pos := pos) h hst s0 S0 (F.evo e0)) ?_ fun _ _ z => z
  rintro vs s1 ⟨ys, σ1, ⟨v, rfl, l, xs, key, rfl, hl, h64, hP, hturn, hq⟩, r1, S1, e1⟩
  refine kwAll_cons (kla_eval hdef ?_)
  refine lam_make (c := c) S1 rfl rfl (closureFor_mine (env := mkE sc L cells q0 fn (.ref c) fr) hfree) Cd hP hB fun f s2 S2 e2 hfn hL => ?_
  refine kwAll_nil ⟨S2.base, ?_⟩
  cases r1 with
  | cons ra rb =>
  cases ra; cases rb
  have F2 := (F.evo e0).evo (e1.trans e2)
  show wpAny C.M A (PySem.call (Value.builtin "sorted") [Value.ref l] [(Str.ofString "key", Value.ref f)]) _ _ _
  refine wpAny_mono (sorted_key (X := X) S2 F2 hl h64 hfn hL (fun x hx s3 v S3 F3 hL3 rv => ?_) hq) (fun _ _ z => ((z.after e2).after e1).after e0) fun _ _ z => z
  exact lam_call (env := mkE sc L cells q0 fn (.ref c) fr) S3 F3 hL3 rv hroom (fun pm cdv ctv => hbind v _ pm cdv ctv) hco hgen hk hpn hok hfree cap fun L' cdv A' a1 a2 => hturn x hx L' f cdv A' a1 (Nat.le_trans a2 (by show A.units + 1 + 1 + 3 ≤ _; (first | lia | omega)))
end
end Mine

set_option autoImplicit false
set_option linter.unusedVariables false
set_option maxRecDepth 100000
namespace Mine
open PySem PySem.W PySem.SeqAt PyProof.Rows
section
variable {C : Cx} {A : Around} {env : Env} {ρ : Rho} {σ : Store} {X : XP} {s : Shared}
theorem Ev.nfree {sc : Scope} {L : Addr} {cells : List (Str × Addr)} {q : Str} {fn : Option Addr} {cd : Value} {fr : Option Addr} {x : Str} {pos : Pos} {v : V} {Q : V → Store → Prop} (hk : sc.names.lookup x = some .free) (hv : ρ.get x = some v) (h : Q v σ) (hc : (cells.lookup x).isSome = true) (hd : (x == ("__debug__" : Str)) = false) (hn : (x == ("__classdict__" : Str)) = false) :
    Ev C A (mkE sc L cells q fn cd fr) (.Name x pos) ρ σ Q X := by
  obtain ⟨c, hc⟩ := Option.isSome_iff_exists.mp hc
  exact Ev.free hk hc hv h hd hn
theorem Br.both {b : Bool} {p q : Prop} (h1 : p) (h2 : q) : if b = true then p else q := by split <;> assumption
theorem Exs.cut {st : Stmt} {ss : List Stmt} {Q : FV → Rho → Store → Prop} (P : Rho → Store → Prop) (h1 : Ex C A env st ρ σ (fun g ρ' σ' => g = .next ∧ P ρ' σ') X) (h2 : ∀ ρ' σ', P ρ' σ' → Exs C A env ss ρ' σ' Q X) : Exs C A env (st :: ss) ρ σ Q X :=
  Exs.cons (h1.mono fun g ρ' σ' ⟨e, p⟩ => by subst e; exact h2 ρ' σ' p)
/- slices: of a list, of a text -/
def SliceWP (C : Cx) (o : V) (a b : Option Int) (σ3 : Store) (Q : V → Store → Prop) : Prop :=
  (∃ l xs, o = .ref l ∧ LstAt C σ3 l xs ∧ xs.length ≤ sizeLine ∧ ∀ c, σ3 c = Option.none → Q (.ref c) (σ3.upd c (.list (pySlice xs a b)))) ∨
  (∃ x, o = .str x ∧ x.length ≤ sizeLine ∧ Q (.str (Txt.slice x a b)) σ3)
theorem SliceWP.list {l : Addr} {xs : List V} {a b : Option Int} {Q : V → Store → Prop} (hl : LstAt C σ l xs) (hz : xs.length ≤ sizeLine) (h : ∀ c, σ c = Option.none → Q (.ref c) (σ.upd c (.list (pySlice xs a b)))) : SliceWP C (.ref l) a b σ Q :=
  .inl ⟨l, xs, rfl, hl, hz, h⟩
theorem SliceWP.str {x : Str} {a b : Option Int} {Q : V → Store → Prop} (hz : x.length ≤ sizeLine) (h : Q (.str (Txt.slice x a b)) σ) : SliceWP C (.str x) a b σ Q := .inr ⟨x, rfl, hz, h⟩
theorem IsPart.opt {v : Value} {k : Option Int} (p : IsPart v k) : ∃ l : Option (Int × Tok), v = partValue l ∧ l.map (·.1) = k := by
  cases p with
  | none => exact ⟨none, rfl, rfl⟩
  | int i t => exact ⟨some (i, t), rfl, rfl⟩
theorem Ev.slice {value : Expr} {lo hi : Option Expr} {p pos : Pos} {Q : V → Store → Prop}
    (h : Ev C A env value ρ σ (fun o σ1 => Prt C A env lo ρ σ1 (fun a σ2 => Prt C A env hi ρ σ2 (fun b σ3 => SliceWP C o a b σ3 Q) X) X) X) : Ev C A env (.Subscript value (.Slice lo hi Option.none p) pos) ρ σ Q X := by
  intro s S F
  rw [eval_Subscript]
  refine wpAny_bind (wpAny_mono (h s S F) ?_ fun _ _ z => z)
  rintro o s1 ⟨x, σ1, h1, r1, S1, e1⟩
  refine wpAny_bind (wpAny_holding ?_)
  rw [arm_eval_Slice]
  refine wpAny_bind (wpAny_mono (h1.run S1 (F.evo e1)) ?_ fun _ _ z => z)
  rintro vl s2 ⟨a, σ2, h2, p2, S2, e2⟩
  refine wpAny_bind (wpAny_holding (wpAny_mono (h2.run S2 ((F.evo e1).evo e2)) ?_ fun _ _ z => z))
  rintro vu s3 ⟨b, σ3, (⟨l, xs, rfl, hl, hz, q⟩ | ⟨x, rfl, hz, q⟩), p3, S3, e3⟩
  · cases r1
    refine wpAny_bind (wpAny_holding (wpAny_pure (wpAny_newObj_type ?_)))
    have S4 : St C σ3 { s3 with heap := s3.heap.push { cls := .type "slice", data := .fields #[vl, vu, .none] } } := S3.push
    obtain ⟨items, il, rl⟩ := hl.raw S4
    have e := rl.length
    simp only [Array.length_toList] at e
    refine wpAny_bind (wpAny_standAt (getitem_mine (.list il) (wpAny_getItem_list_slice (lo := a) (hi := b) (st := none) il ⟨_, Heap.get?_push_size _ rfl, rfl, rfl⟩ p2 p3 .none (by simp) ?_ (by rw [e]; exact hz))))
    obtain ⟨S5, e5⟩ := S4.new (t := s3.toks) (rep_list_push (C := C) (vs := (slicePick items a b none).toList) (xs := pySlice xs a b) (by rw [slicePick_list]; unfold pySlice; simp only [Array.length_toList, e]; exact rl.pick _))
    refine ⟨.ref _, _, q _ S4.fresh, .ref _, by simpa using S5, ?_⟩
    have := (((e1.trans e2).trans e3).trans .push).trans e5
    simpa using this
  · cases r1
    refine wpAny_bind (wpAny_holding (wpAny_pure (wpAny_newObj_type ?_)))
    obtain ⟨l, rfl, rfl⟩ := IsPart.opt p2
    obtain ⟨u, rfl, rfl⟩ := IsPart.opt p3
    refine wpAny_bind (wpAny_standAt (getitem_mine .str (wpAny_getItem_str_slice (l := l) (u := u) (st := none) ⟨_, Heap.get?_push_size _ rfl, rfl, rfl⟩ rfl (post_val_or_str ⟨Nat.le_trans (Txt.slice_le x _ _) hz, fun t' k => ?_⟩))))
    exact ⟨_, σ3, q, .str _ _, (S3.push).toks _, ((e1.trans e2).trans e3).trans .push⟩

end

theorem slice_cps (x : Str) (l u : Option Int) (a n : Nat) (h : a + n ≤ x.length) (e : Builtin.Str.strSliceIndices l u 1 x.length = (List.range n).map fun i => a + i) : (Txt.slice x l u).cps.toList = (x.cps.toList.drop a).take n := by
  have hx : x.cps.toList.length = x.length := by simp [Str.length]
  unfold Txt.slice
  rw [e]
  split
  · rename_i z
    simp only [List.length_map, List.length_range, beq_self_eq_true, Bool.true_and, beq_iff_eq] at z
    have : a = 0 := by (first | lia | omega)
    subst this
    rw [List.drop_zero, List.take_of_length_le (by (first | lia | omega))]
  · have e2 : (List.filterMap (fun i => x.cps[i]?) ((List.range n).map fun i => a + i)) = ((List.range n).map fun i => a + i).filterMap (x.cps.toList[·]?) := by simp
    show (List.filterMap (fun i => x.cps[i]?) ((List.range n).map fun i => a + i)).toArray.toList = _
    rw [e2, pick_range _ a n (by (first | lia | omega))]
theorem slice_upto (x : Str) (k : Nat) (hk : k ≤ x.length) : (Txt.slice x none (some (k : Int))).cps.toList = x.cps.toList.take k := by
  have e : Builtin.Str.strSliceIndices none (some (k : Int)) 1 x.length = (List.range k).map fun i => 0 + i := by
    unfold Builtin.Str.strSliceIndices
    have h1 : ¬ ((k : Int) < 0) := by (first | lia | omega)
    have h2 : max 0 (min (k : Int) (x.length : Int)) = ((k : Nat) : Int) := by (first | lia | omega)
    simp only [h1, if_false, show (1 : Int) > 0 by decide, if_true, h2]
    have := sliceRange_one 0 k
    simpa using this
  rw [slice_cps x none (some (k : Int)) 0 k (by (first | lia | omega)) e, List.drop_zero]
theorem cps_append (x y : Str) : (x ++ y).cps.toList = x.cps.toList ++ y.cps.toList := by
  show (x.cps ++ y.cps).toList = _
  simp
end Mine

set_option autoImplicit false
set_option linter.unusedVariables false
namespace Mine
open PySem PySem.W PySem.SeqAt PyProof.Rows

theorem top_exists (h : Heap) : ∀ n, (∀ b o, h.get? b = some o → b < n) → ∃ m, (∀ b o, h.get? b = some o → b < m) ∧ ∀ k, m = k + 1 → ∃ o, h.get? k = some o
  | 0, hn => ⟨0, hn, fun k e => by cases e⟩
  | n + 1, hn => by
    cases q : h.get? n with
    | some o => exact ⟨n + 1, hn, fun k e => by cases e; exact ⟨o, q⟩⟩
    | none =>
      refine top_exists h n fun b o e => ?_
      have := hn b o e
      rcases Nat.lt_or_eq_of_le (Nat.le_of_lt_succ this) with z | z
      · exact z
      · rw [z, q] at e; cases e

theorem ints_VRs {h : Heap} : ∀ {vs : List Value} {ns : List Int}, IntsAre vs ns → VRs h vs (ns.map V.int)
  | [], ns, hI => by
    cases ns with
    | nil => exact .nil
    | cons _ _ => have := hI.length; simp at this
  | v :: vs, ns, hI => by
    cases ns with
    | nil => have := hI.length; simp at this
    | cons n ns =>
      cases hI with
      | cons _ h2 => exact .cons (.int _ _) (ints_VRs (by assumption))

end Mine

set_option autoImplicit false
set_option linter.unusedVariables false
set_option maxRecDepth 100000
namespace Mine
open PySem PySem.W PySem.SeqAt PyProof.Rows

/-- frames that stand -/
def Frs (C : Cx) (σ : Store) (h : Heap) (l : List Env) : Prop := ∀ env ∈ l, env.scope.kind ≠ .module ∧ ∃ L m, env.frame = some L ∧ h.Ns L m ∧ σ L = none ∧ C.n₀ ≤ L
/-- addresses laid aside: frames -/
def Hid (C : Cx) (σ : Store) (h : Heap) (fs : List Addr) : Prop := ∀ b ∈ fs, σ b = none ∧ C.n₀ ≤ b ∧ ∃ m, h.Ns b m
section
variable {C : Cx} {A : Around} {env : Env} {ρ : Rho} {σ : Store} {X : XP} {s : Shared} {l : List Env}

theorem Evo.off {σ' : Store} {h h' : Heap} (e : Evo σ h σ' h') {b : Addr} {o : Obj} (hb : h.get? b = some o) (hn : σ b = none) : σ' b = none := by
  cases q : σ' b with
  | none => rfl
  | some o2 =>
    rcases e.dom b o2 q with ⟨o', e'⟩ | e'
    · rw [hn] at e'; cases e'
    · rw [hb] at e'; cases e'
theorem Frs.evo {σ' : Store} {h h' : Heap} (x : Frs C σ h l) (e : Evo σ h σ' h') : Frs C σ' h' l := by
  intro env he
  obtain ⟨hk, L, m, hf, hm, hn, hl⟩ := x env he
  have hm' := ns_kept hm fun o q => e.keep _ _ q hn
  obtain ⟨o, es, ep, ho, rest⟩ := hm
  exact ⟨hk, L, m, hf, hm', e.off ho hn, hl⟩
theorem Fm.frs {h : Heap} (F : Fm C σ h env ρ) (hf : env.frame = some env.locals) (x : Frs C σ h l) : Frs C σ h (env :: l) := by
  intro e he
  rcases List.mem_cons.mp he with rfl | he
  · obtain ⟨m, hm, _⟩ := F.loc
    exact ⟨by rw [F.fn]; decide, _, m, hf, hm, F.locs, F.abv⟩
  · exact x e he
theorem Frs.nil {h : Heap} : Frs C σ h [] := fun _ he => (nomatch he)
theorem Frs.hid {h : Heap} (x : Frs C σ h l) : Hid C σ h (l.filterMap (·.frame)) := by
  intro b hb
  obtain ⟨env, he, hf⟩ := List.mem_filterMap.mp hb
  obtain ⟨hk, L, m, hf', hm, hn, hl⟩ := x env he
  rw [hf'] at hf; cases hf
  exact ⟨hn, hl, m, hm⟩
theorem Frs.fun {h : Heap} {fs : List Addr} : ∀ {l : List Env}, Frs C σ h l → (∀ b ∈ l.filterMap (·.frame), b ∈ fs) → h.FunFrames (hideAll h fs) l
  | [], _, _ => trivial
  | env :: r, x, k => by
    obtain ⟨hk, L, m, hf, hm, hn, hl⟩ := x env (.head _)
    obtain ⟨o, es, ep, ho, hd, rest⟩ := hm
    refine ⟨hk, ⟨L, o, hf, hideAll_none _ (k L (List.mem_filterMap.mpr ⟨env, .head _, hf⟩)), ho, fun vs q => by rw [hd] at q; cases q⟩, Frs.fun (fun e he => x e (.tail _ he)) fun b hb => k b ?_⟩
    obtain ⟨e, he, hb⟩ := List.mem_filterMap.mp hb
    exact List.mem_filterMap.mpr ⟨e, .tail _ he, hb⟩

theorem settle {h1 h' B : Heap} {fs : List Addr} (S : St C σ { s with heap := h1 }) (H : Hid C σ h1 fs) (cov : ∀ b o, h1.get? b = some o → b ∉ fs → B.get? b = some o) (st : B.StaysIn h') (up : h1.UpToSlots h') (t : Nat) :
    St C σ { s with heap := h', toks := t } ∧ Evo σ h1 σ h' := by
  have key : ∀ b o, h1.get? b = some o → b ∉ fs → h'.get? b = some o := fun b o e n => st b o (cov b o e n)
  have tk : TupKeep h1 h' := fun a o i e => key a o e fun hb => by
    obtain ⟨_, _, m, o', es, ep, ho, hd, _⟩ := H a hb
    rw [e] at ho; cases ho
    exact Imm.notDict hd i
  refine ⟨⟨fun b o e => ?_, fun a o e => ?_, S.above, S.gens, S.os⟩, fun b o e n => ?_, fun b o e => .inl ⟨o, e⟩, fun b o e => ⟨o, e⟩, tk⟩
  · exact key b o (S.base b o e) fun hb => absurd (C.low b o e) (Nat.not_lt.mpr (H b hb).2.1)
  · exact (S.rep a o e).at (fun x hx => key a x hx fun hb => by rw [(H a hb).1] at e; cases e) tk
  · by_cases hb : b ∈ fs
    · obtain ⟨_, _, m, o', es, ep, ho, hd, _⟩ := H b hb
      rw [e] at ho; cases ho
      exact .inr ⟨⟨es, ep, hd⟩, up b o e fun vs q => by rw [hd] at q; cases q⟩
    · exact .inl (key b o e hb)

/-- an own exception on its way -/
def XR (C : Cx) (σ : Store) (h : Heap) (l : List Env) (D : Addr) (v : Value) (s' : Shared) : Prop :=
  ∃ σ1 h1 e B t fs, v = .ref e ∧ St C σ1 { s' with heap := h1 } ∧ Evo σ h σ1 h1 ∧ Hid C σ1 h1 fs ∧ (∀ b o, h1.get? b = some o → b ∉ fs → B.get? b = some o) ∧ h1.get? e = none ∧ h1.UpToSlots s'.heap ∧ Heap.FlyingW B l e (.ref D) (.ref t) s'.heap
/-- one that was made here -/
def XM (C : Cx) (env : Env) (σ : Store) (h : Heap) (D : Addr) (v : Value) (s' : Shared) : Prop :=
  ∃ σ1 h1 e vs, v = .ref e ∧ St C σ1 { s' with heap := h1 } ∧ Evo σ h σ1 h1 ∧ Heap.MadeExcOf h1 s'.heap e (.ref D) vs

/-- a call that may raise D -/
def CallR (C : Cx) (A : Around) (l : List Env) (f : Value) (args : List V) (σ : Store) (Q : V → Store → Prop) (D : Addr) : Prop :=
  ∀ s vs, St C σ s → VRs s.heap vs args → Frs C σ s.heap l → wpAny C.M A (call f vs) (EP C σ s.heap Q) (XR C σ s.heap l D) s
/-- a call that looks at the frames -/
def CallF (C : Cx) (A : Around) (l : List Env) (f : Value) (args : List V) (σ : Store) (Q : V → Store → Prop) (X : XP) : Prop :=
  ∀ s vs, St C σ s → VRs s.heap vs args → Frs C σ s.heap l → wpAny C.M A (call f vs) (EP C σ s.heap Q) X s

/-- f(args), where the call looks at this frame -/
theorem Ev.callF {func : Expr} {args : List Expr} {pos : Pos} {Q : V → Store → Prop} (hf : env.frame = some env.locals)
    (h : Ev C A env func ρ σ (fun fx σ1 => ∃ f, (∀ v hp, VR hp v fx → v = f) ∧ Kp C f ∧ Ags C A env pos args ρ σ1 (fun xs σ2 => CallF C A [env] f xs σ2 Q X) X) X)
    (hev : eval (.Call func args [] pos) env = (do callWith pos (← eval func env) [] (backTo pos (starEach args env)) (backToKw pos (keywordEach [] env))))
    (he : (backTo pos (starEach args env)).any (·.1) = false) : Ev C A env (.Call func args [] pos) ρ σ Q X := by
  intro s S F
  rw [hev]
  refine wpAny_bind (wpAny_mono (h s S F) ?_ fun _ _ z => z)
  rintro v s1 ⟨x, σ1, ⟨f, hf', kp, q⟩, r1, S1, e1⟩
  obtain rfl := hf' v _ r1
  refine callWith_of (first := []) (P := fun h => ∀ b o, C.h₀.get? b = some o → h.get? b = some o) (by rw [he]; rfl) kp ?_
  refine evalArgs_sp he (wpAny_mono (q s1 S1 (F.evo e1)) ?_ fun _ _ z => z)
  rintro vs s2 ⟨xs, σ2, q2, r2, S2, e2⟩
  exact ⟨S2.base, wpAny_mono (q2 s2 _ S2 r2 ((((F.evo e1).evo e2)).frs hf .nil)) (fun _ _ z => (z.after e2).after e1) fun _ _ z => z⟩

theorem St.adoptX {a : Addr} {o : O} {σ0 : Store} {h0 : Heap} (S : St C σ s) (r : Rep C s.heap a o) (hn : C.h₀.get? a = none) (hl : C.loose) (e : Evo σ0 h0 σ s.heap) (hf : h0.get? a = none) : St C (σ.upd a o) s ∧ Evo σ0 h0 (σ.upd a o) s.heap := by
  refine ⟨⟨S.base, fun b x hx => ?_, fun b x hx => ?_, S.gens, S.os⟩, e.keep, fun b x hx => ?_, fun b x hx => ?_, e.tup⟩
  · by_cases q : b = a
    · subst q; rw [Store.upd_self] at hx; cases hx; exact r
    · rw [Store.upd_ne _ _ q] at hx; exact S.rep b x hx
  · by_cases q : b = a
    · subst q; exact ⟨hn, .inr (.inr hl)⟩
    · rw [Store.upd_ne _ _ q] at hx; exact S.above b x hx
  · by_cases q : b = a
    · subst q; exact .inr hf
    · rw [Store.upd_ne _ _ q] at hx; exact e.dom b x hx
  · obtain ⟨o', e'⟩ := e.mono b x hx
    by_cases q : b = a
    · subst q; exact ⟨_, Store.upd_self ..⟩
    · exact ⟨o', by rw [Store.upd_ne _ _ q]; exact e'⟩

end
end Mine

set_option autoImplicit false
set_option linter.unusedVariables false
set_option maxRecDepth 100000
namespace Mine
open PySem PySem.W PySem.SeqAt PyProof.Rows PySem.Calls PySem.Builtin PySem.Builtin.ObjectAttr PySem.Builtin.Getset_descriptor
/-- an exception of an own class -/
def ExAt (x D : Addr) (h : Heap) : Prop := ∃ o vs, h.get? x = some o ∧ o.cls = .ref D ∧ o.data = .fields vs
theorem ExAt.type {x D : Addr} {M : Model} {h : Heap} (I : ExAt x D h) : Looks M h (typeOf (.ref x)) (.ref D) := by
  obtain ⟨o, vs, e, hc, _⟩ := I
  exact hc ▸ (Looks.ld e).andThen .now
/-- what isinstance asks of the class -/
def excKit (K : Frag) (D : Addr) : Bool :=
  (findIn K (.ref D) "__getattribute__" == some (some (.builtin "BaseException.__getattribute__"))) && (findIn K (.ref D) "__getattr__" == some none) && (findIn K (.ref D) "__class__" == some (some (.builtin "object.__class__"))) &&
  (specialIn K (.builtin "object.__class__") "__get__" == some (some (.builtin "getset_descriptor.__get__"))) && (takesIn K (.builtin "object.__class__") == some true) && (mroIn K D (.type "object") == some true) && (mroIn K D (.type "BaseException") == some true) && (clsIn K D).isSome
section
variable {prog : Program} {w : World} {A : Around} {E : Value → Shared → Prop} {s : Shared} {K : Frag} {x D : Addr}
theorem exc_find {M : Model} {h : Heap} {g a : Value} (X : K.In h) (I : ExAt x D h) (ha : findIn K (.ref D) "__class__" = some (some a)) (hn : specialIn K a "__get__" = some (some g)) (htk : takesIn K a = some true) :
    Looks M h (find (.ref x) (.ref D) "__class__") (.bind g a) := by
  have L1 := looks_findIn (M := M) X ha
  have L2 : Looks M h (getOf (some a)) (some g) := looks_specialIn X hn
  have L3 := looks_takesIn (M := M) X htk
  exact L1.andThen (L2.andThen ((show Looks M h (dataDescriptor? (some a) (some g)) (some (g, a)) from L3.andThen .now).andThen (Looks.tag .now)))
theorem exc_get {R : Result → Shared → Prop} {tp : Value} (X : K.In s.heap) (I : ExAt x D s.heap) (hm : mroIn K D (.type "object") = some true) (h : R (.ok (.ret (.ref D))) s) :
    codeAny (model prog w) A (.call (.builtin "getset_descriptor.__get__") ⟨[.builtin "object.__class__", .ref x, tp], []⟩) R s := by
  obtain ⟨hh, g, dr, t, os⟩ := s
  have L0 := I.type (M := model prog w)
  have L1 := looks_mroIn (M := model prog w) X hm
  refine codeAny_call_builtin KF.slot_gs.plain KF.entry_gs (KF.slot_gs.check _ _ _ _ _ _ _ _ KF.type_class (KF.args_gs _ _ _) ?_)
  unfold Builtin.«getset_descriptor.__get__» descrGet
  rw [dga_obj]
  refine wpAny_bind (wpAny_pure ?_)
  unfold descrGetter descrCheckInstance descrNameAndClass isInstance
  simp only [KF.owner_class]
  repeat lk
  refine ⟨Code.quiet_builtin _ (by decide +kernel), codeAny_builtin KF.entry_class ?_⟩
  unfold Builtin.«object.__class__» shownTypeOf
  repeat lk
  exact h
theorem exc_check {nameV : Value} {Q : Unit → Shared → Prop} (X : K.In s.heap) (I : ExAt x D s.heap) (hm : mroIn K D (.type "BaseException") = some true) (hq : Q () s) : wpAny (model prog w) A (checkBuiltinCall "BaseException.__getattribute__" ⟨[.ref x, nameV], []⟩) Q E s := by
  have hk : builtinKind "BaseException.__getattribute__" = some .slot := by decide +kernel
  have hsplit : splitId "BaseException.__getattribute__" = some ("BaseException", "__getattribute__") := by decide +kernel
  have ha := F.args_bexc_ga (.ref x) nameV
  have L0 := I.type (M := model prog w)
  have LI : Looks (model prog w) s.heap (isInstance (.ref x) (.type "BaseException")) true := L0.andThen (looks_mroIn (M := model prog w) X hm)
  obtain ⟨hh, g, d, t, os⟩ := s
  simp only [checkBuiltinCall, hk, hsplit]
  refine wpAny_bind (LI.at ?_)
  repeat wp_step
  exact hq
theorem exc_class {Q : Option Value → Shared → Prop} (hK : excKit K D = true) (X : K.In s.heap) (I : ExAt x D s.heap) (h : Q (some (.ref D)) { s with toks := s.toks + 1 }) : wpAny (model prog w) A (getAttr? (.ref x) "__class__") Q E s := by
  unfold excKit at hK
  simp only [Bool.and_eq_true, beq_iff_eq] at hK
  obtain ⟨⟨⟨⟨⟨⟨⟨h1, h2⟩, h3⟩, h4⟩, h5⟩, h6⟩, h7⟩, _⟩ := hK
  have L0 := I.type (M := model prog w)
  have L1 := looks_findIn (M := model prog w) X h1
  have L2 := exc_find (M := model prog w) X I h3 h4 h5
  have L3 := looks_findIn (M := model prog w) X h2
  have f3 := F.attrBase_ValueError.ga.bind (.ref x)
  have hx2 : (Value.builtin "BaseException.__getattribute__" == Value.builtin "object.__getattribute__") = false := by decide +kernel
  obtain ⟨hh, g, d, t, os⟩ := s
  unfold getAttr? getAttrBy? getAttrBy
  refine wpAny_bind (wpAny_mkText (wpAny_bind (wpAny_attempt (wpAny_holding (wpAny_bind (L0.at (wpAny_bind (L1.at ?_))))))))
  dsimp only
  rw [hx2, Bool.and_false, if_neg Bool.false_ne_true]
  unfold getAttrByItsOwn
  refine wpAny_bind (show wpAny _ _ (typeLookup (.ref D) "__getattr__") _ _ _ from L3.at ?_)
  refine wpAny_bind (wpAny_attempt (wpAny_holding ?_))
  show wpAny _ _ (boundAndCalled _ _ _) _ _ _
  unfold boundAndCalled
  rw [f3]
  refine wpAny_bind (wpAny_pure ?_)
  refine wpAny_call (codeAny_call_builtin F.attrBase_ValueError.ga.plain F.entry_bexc_ga (exc_check (s := ⟨hh, g, d, t + 1, os⟩) X I h7 ?_))
  refine wpAny_bind (wpAny_pure (wpAny_bind (wpAny_pure (wpAny_bind (L0.at (wpAny_bind (L2.at ?_)))))))
  show wpAny _ _ (holding [.builtin "object.__class__"] (call (.builtin "getset_descriptor.__get__") [.builtin "object.__class__", .ref x, .ref D]) >>= ret) _ _ _
  refine wpAny_bind (wpAny_holding (wpAny_call (exc_get (s := ⟨hh, g, d, t + 1, os⟩) X I h6 ?_)))
  refine wpAny_pure ?_
  exact handed_on rfl (wpAny_pure h)
theorem kitx_exc (hK : excKit K D = true) : KitX K (.ref x) (.ref D) (ExAt x D) where
  ty := fun _ _ _ I => I.type
  it := fun _ _ X _ => by
    have hK' := hK
    unfold excKit at hK'
    simp only [Bool.and_eq_true] at hK'
    have hc := hK'.2
    unfold clsIn at hc
    split at hc
    · rename_i c' d' cd' sl' ho
      intro A' Q' E' s' k q
      unfold isType loadHead
      exact wpAny_bind (wpAny_loadPart (k _ _ (X _ _ ho)) (wpAny_pure q))
    · cases hc
  ne := fun h tp dd its n sl X htp => by
    have hK' := hK
    unfold excKit at hK'
    simp only [Bool.and_eq_true] at hK'
    have hc := hK'.2
    refine Bool.eq_false_iff.mpr fun q => ?_
    have e : D = tp := Value.ref.inj (beq_iff_eq.mp q)
    subst e
    unfold clsIn at hc
    split at hc
    · rename_i c' d' cd' sl' ho
      have z := (X _ _ ho).symm.trans htp
      cases z
    · cases hc
  ca := fun X I k => exc_class hK X I k
end
section
variable {C : Cx} {A : Around} {env : Env} {ρ : Rho} {σ : Store} {X : XP} {s : Shared}
theorem isi_exc {e D T : Addr} {b : Bool} {Q : V → Store → Prop} (he : σ e = some (.exc D)) (hK : excKit C.K D = true) (hk : kitOne C.K (.ref D) (.ref T) = some b) (h : Q (.bool b) σ) : CallWP C A (.builtin "isinstance") [.ref e, .ref T] σ Q X := by
  intro s vs S r
  obtain ⟨_, _, rfl, r1, r2⟩ := r.two
  obtain rfl := r1.refI
  obtain rfl := r2.refI
  exact kia_one (kitx_exc (x := e) hK) S.K (S.rep _ _ he) hk (by intro q; cases q) fun tk => EP.pureT S h (.bool _)
theorem isi_excT {e D : Addr} {T : String} {b : Bool} {Q : V → Store → Prop} (he : σ e = some (.exc D)) (hK : excKit C.K D = true) (hk : kitOne C.K (.ref D) (.type T) = some b) (h : Q (.bool b) σ) : CallWP C A (.builtin "isinstance") [.ref e, .typ T] σ Q X := by
  intro s vs S r
  obtain ⟨_, _, rfl, r1, r2⟩ := r.two
  obtain rfl := r1.refI
  obtain rfl := r2.typI
  exact kia_one (kitx_exc (x := e) hK) S.K (S.rep _ _ he) hk (by intro q; cases q) fun tk => EP.pureT S h (.bool _)
end
end Mine

set_option autoImplicit false
set_option linter.unusedVariables false
set_option maxRecDepth 100000
namespace Mine
open PySem PySem.W PySem.SeqAt PyProof.Rows PySem.Calls PySem.Builtin PySem.Builtin.Str
/-- a text's signs -/
def signsV (x : Str) : List V := x.cps.toList.map fun c => V.str ⟨#[c]⟩
section
variable {C : Cx} {A : Around} {env : Env} {ρ : Rho} {σ : Store} {X : XP} {s : Shared}
theorem signs_get {x : Str} {k : Nat} {y : V} (h : (signsV x)[k]? = some y) : ∃ c, x.cps[k]? = some c ∧ y = .str ⟨#[c]⟩ := by
  unfold signsV at h
  rw [List.getElem?_map] at h
  obtain ⟨c, h1, h2⟩ := Option.map_eq_some_iff.mp h
  exact ⟨c, by simpa using h1, h2.symm⟩
theorem signs_none {x : Str} {k : Nat} (h : (signsV x)[k]? = none) : x.cps[k]? = none := by
  unfold signsV at h
  rw [List.getElem?_map] at h
  simpa using h
theorem striter_imm {h : Heap} {it : Addr} {T : String} {x : Str} {t : Tok} {k : Nat} (hT : T = "str_ascii_iterator" ∨ T = "str_iterator") (J : h.IsStrIter it T x t k) {o : Obj} (e : h.get? it = some o) : ¬ Imm o := by
  obtain ⟨o', e', c, d⟩ := J
  rw [e] at e'; cases e'
  rcases hT with rfl | rfl <;> exact Imm.not (by rw [c]; simp) (by rw [c]; simp) (by rw [c]; simp)
theorem Itr.strG {target : Expr} {it : Addr} {x : Str} {t : Tok} {T : String} (hT : T = "str_ascii_iterator" ∨ T = "str_iterator") (hh : A.handled = none) :
    Itr C A target (.ref it) (fun b => b = it) (fun k h => h.IsStrIter it T x t k) (fun _ => True) (signsV x) where
  frame := fun k h h' ⟨o, e, r⟩ _ kp => ⟨o, kp it o rfl e, r⟩
  notTup := fun k h b o' J q z => by subst q; exact striter_imm hT J z
  notD := fun k h b o' ⟨o, e, c, d⟩ q z es n w => by subst q; rw [e] at z; cases z; rw [d] at w; cases w
  there := fun k h b ⟨o, e, _⟩ q => by subst q; exact ⟨o, e⟩
  more := fun k σ s y Q X S hok hJ hx no hQ => by
    obtain ⟨c, hc, rfl⟩ := signs_get hx
    have go : ∀ h', h'.IsStrIter it T x t (k + 1) → Heap.SameBut it s.heap h' → Q (some (.str ⟨#[c]⟩ s.toks)) { s with heap := h', toks := s.toks + 1 } := fun h' J' sb => by
      have kp : ∀ b o, ¬ b = it → s.heap.get? b = some o → h'.get? b = some o := fun b o q e => (sb.2 b q).trans e
      refine hQ _ h' (s.toks + 1) (.str _ _) kp (fun b o' q z => ?_) (fun Q' X' hq => ?_)
      · subst q; exact striter_imm hT J' z
      · obtain ⟨o, e, hc, _⟩ := id J'
        rcases hT with rfl | rfl <;> exact letGo_plain (s := { s with heap := h', toks := s.toks + 1 }) e hc (by decide) (hq h' (s.toks + 1) J' fun _ _ _ e => e)
    rcases hT with rfl | rfl
    · exact wpAny_pyNext_ascii_item hJ hc go
    · exact wpAny_pyNext_wide_item hJ hc go
  self := fun k s Q X hJ hq => by
    rcases hT with rfl | rfl
    · exact wpAny_pyIter_striter_ascii hJ hq
    · exact wpAny_pyIter_striter_wide hJ hq
  done := fun k σ s Q X S hok hJ hx no hQ => by
    rcases hT with rfl | rfl
    · exact wpAny_pyNext_ascii_end hh hJ (signs_none hx) fun h' kp => hQ h' s.toks fun b o q e => kp b o q e
    · exact wpAny_pyNext_wide_end hh hJ (signs_none hx) fun h' kp => hQ h' s.toks fun b o q e => kp b o q e
theorem ItV.str {target : Expr} {x : Str} (hh : A.handled = none) : ItV C A target (.str x) σ (signsV x) (fun _ => True) := by
  refine ⟨trivial, fun s v Q X S r hQ => ?_⟩
  cases r with
  | str _ t =>
    cases ha : x.cps.all (· < 128)
    · exact wpAny_pyIter_wide ha (hQ _ _ _ _ s.toks (Itr.strG (t := t) (.inr rfl) hh) (fun b o e => Heap.get?_push_of_some _ e) (fun b w => w ▸ Nat.le_refl _) ⟨_, Heap.get?_push_size _ rfl, rfl, rfl⟩)
    · exact wpAny_pyIter_ascii ha (hQ _ _ _ _ s.toks (Itr.strG (t := t) (.inl rfl) hh) (fun b o e => Heap.get?_push_of_some _ e) (fun b w => w ▸ Nat.le_refl _) ⟨_, Heap.get?_push_size _ rfl, rfl, rfl⟩)

def inS (x y : Str) : Bool := !(Builtin.Str.occurrences x y 0 x.length 1).isEmpty
theorem CmpWP.inStr {x y : Str} {Q : V → Store → Prop} (h : Q (.bool (inS x y)) σ) : CmpWP C A .In (.str y) (.str x) σ Q X := by
  intro s a b S ra rb
  obtain ⟨_, rfl⟩ := ra.strI
  obtain ⟨_, rfl⟩ := rb.strI
  exact PyProof.Rows.in_str (EP.pure S h (.bool _))
theorem UnWP.not {x : V} {Q : V → Store → Prop} (h : TruWP C A x σ (fun b σ' => Q (.bool (!b)) σ') X) : UnWP C A .Not x σ Q X := by
  intro s v S r
  refine PyProof.Rows.not_of (wpAny_mono (h s v S r) ?_ fun _ _ z => z)
  rintro b s' ⟨σ', q, S', e'⟩
  exact ⟨_, σ', q, .bool _, S', e'⟩
theorem CallWP.upper {x : Str} {Q : V → Store → Prop} (hz : tooLong (Txt.upper x).length = false) (h : Q (.str (Txt.upper x)) σ) : CallWP C A (.builtin "str.upper") [.str x] σ Q X := by
  intro s vs S r
  obtain ⟨_, rfl, r1⟩ := r.one
  obtain ⟨_, rfl⟩ := r1.strI
  exact SC.upper hz (EP.pureT S h (.str _ _))
def isT : Value → Bool
  | .bool b => b
  | _ => false
theorem bools_of {h : Heap} : ∀ {vs : List Value} {bs : List Bool}, VRs h vs (bs.map V.bool) → vs = bs.map Value.bool
  | vs, [], r => r.nilI
  | vs, b :: bs, r => by
    obtain ⟨_, _, rfl, r1, r2⟩ := r.consI
    obtain rfl := r1.boolI
    rw [bools_of r2]; rfl
theorem eqT {b : Bool} (S : St C σ s) (hu : A.units < 9000) : EqAt A.in1 s (.bool b) (.bool true) b := by
  intro prog w E Q hq
  obtain ⟨as, r1⟩ := (DR.bool (C := C) (σ := σ) b).reads S (.bool b)
  obtain ⟨bs, r2⟩ := (DR.bool (C := C) (σ := σ) true).reads S (.bool true)
  refine eqBoolOverData prog w _ E s _ _ _ _ _ _ Q r1 r2 rfl rfl ?_ ?_
  · show A.units + 1 + _ < _
    simp only [PyData.depth, cLine]; (first | lia | omega)
  · have e : PyData.eqv (.bool b) (.bool true) = b := by cases b <;> rfl
    rw [e]; exact hq
theorem CallWP.countB {l : Addr} {bs : List Bool} {Q : V → Store → Prop} (hl : LstAt C σ l (bs.map V.bool)) (hu : A.units < 9000) (h : Q (.int ((bs.countP id : Nat) : Int)) σ) : CallWP C A (.builtin "list.count") [.ref l, .bool true] σ Q X := by
  intro s vs S r
  obtain ⟨_, _, rfl, r1, r2⟩ := r.two
  obtain rfl := r1.refI
  obtain rfl := r2.boolI
  obtain ⟨items, hI, rl⟩ := hl.raw S
  have e := bools_of rl
  obtain ⟨⟨cls, dd, data, sl⟩, ho, hc, n, hd⟩ := id hI
  simp only at hc hd
  subst hc hd
  refine call_meets PySem.F.slot_list_count ⟨_, ho, rfl⟩ PySem.F.entry_list_count (PySem.F.args_list_count_2 _ _) (list_countAt l items n dd sl (.bool true) isT) ⟨ho, fun y hy => ?_, ?_⟩
  · have hy' : y ∈ items.toList := by simpa using hy
    rw [e] at hy'
    obtain ⟨b, _, rfl⟩ := List.mem_map.mp hy'
    exact eqT S hu
  · rw [e]
    have e2 : (bs.map Value.bool).countP isT = bs.countP id := by rw [List.countP_map]; rfl
    rw [e2]
    exact EP.pureT S h (.int _ _)
/-- def rules that tell the frames -/
theorem CallWP.def1F (x1 : Str) {f : Addr} {name qual : Str} {params : Arguments} {body : List Stmt} {scope : Scope} {dV kV doc pm cdv ct oc : Value} {an od : Option Addr} {osl : Array (Option Value)} {v1 : V} {Q : V → Store → Prop}
    (ho : C.K.lookup f = some ⟨oc, od, .func (fnOf name qual params body scope dV kV doc pm an cdv ct), osl⟩) (hcd : codeIn C.K cdv qual = true) (hroom : A.depth < recursionLimit)
    (hbind : ∀ u1 : Value, bindArgs (fnOf name qual params body scope dV kV doc pm an cdv ct) ⟨[u1], []⟩ = pure [(x1, u1)]) (nd : ([x1] : List Str).Nodup)
    (hkind : (([x1] : List Str).all fun y => scope.names.lookup y == some .local || scope.names.lookup y == some .cell) = true) (hsc : scopeOk scope = true) (hco : scope.isCoroutine = false) (hgen : scope.isGenerator = false) (hk : scope.kind = .function)
    (h : ∀ L A', A'.handled = A.handled → A'.depth = A.depth + 1 → A'.units = A.units + 3 → A'.frames = A.frames.map (mkE scope L (cellsFrom (L + 1) scope.names []) (qual ++ ".<locals>.") (some f) cdv (some L) :: ·) → Exs C A' (mkE scope L (cellsFrom (L + 1) scope.names []) (qual ++ ".<locals>.") (some f) cdv (some L)) body [(x1, v1)] σ (fun g _ σ' => Q g.val σ') (fun _ _ => False)) :
    CallWP C A (.ref f) [v1] σ Q X :=
  CallWP.fnK (names := [x1]) (args := [v1]) ho hcd hroom (fun L => h L _ rfl rfl rfl rfl) (fun vals hl => by obtain ⟨u1, t1, rfl, h1⟩ := lenS hl; obtain rfl := List.eq_nil_of_length_eq_zero h1; exact hbind u1) nd hkind hsc hco hgen hk
end
end Mine

set_option autoImplicit false
set_option linter.unusedVariables false
namespace Mine
open PySem PySem.W

/- a ledger: which objects stand in the store, each at its own address -/
structure Led (σ : Store) (l : List (Addr × O)) : Prop where
  nd : (l.map (·.1)).Nodup
  at_ : ∀ p ∈ l, σ p.1 = some p.2
theorem Led.nil {σ : Store} : Led σ [] := ⟨List.nodup_nil, fun _ h => nomatch h⟩
theorem Led.get {σ : Store} {l : List (Addr × O)} (L : Led σ l) (n : Nat) {x : Addr} {o : O} (h : l[n]? = some (x, o)) : σ x = some o := L.at_ (x, o) (List.mem_of_getElem? h)
theorem Led.ne {σ : Store} {l : List (Addr × O)} (L : Led σ l) (i j : Nat) {x y : Addr} {o o' : O} (hi : l[i]? = some (x, o)) (hj : l[j]? = some (y, o')) (h : i ≠ j) : x ≠ y := by
  obtain ⟨hl, a⟩ := List.getElem?_eq_some_iff.mp hi
  obtain ⟨hl', b⟩ := List.getElem?_eq_some_iff.mp hj
  have nd := List.pairwise_iff_getElem.mp L.nd
  rcases Nat.lt_or_gt_of_ne h with q | q
  · have := nd i j (by simpa using hl) (by simpa using hl') q
    rw [List.getElem_map, List.getElem_map, a, b] at this
    exact this
  · have := nd j i (by simpa using hl') (by simpa using hl) q
    rw [List.getElem_map, List.getElem_map, a, b] at this
    exact Ne.symm this
theorem Led.set {σ : Store} {l : List (Addr × O)} (L : Led σ l) (n : Nat) {x : Addr} {o : O} (o' : O) (h : l[n]? = some (x, o)) : Led (σ.upd x o') (l.set n (x, o')) := by
  obtain ⟨hl, he⟩ := List.getElem?_eq_some_iff.mp h
  have hk : (l.set n (x, o')).map (·.1) = l.map (·.1) := by
    rw [List.map_set]
    show (l.map (·.1)).set n x = _
    rw [show x = (l.map (·.1))[n]'(by simpa using hl) by rw [List.getElem_map, he]]
    exact List.set_getElem_self _
  refine ⟨by rw [hk]; exact L.nd, fun p hp => ?_⟩
  obtain ⟨i, hi⟩ := List.mem_iff_getElem?.mp hp
  by_cases e : i = n
  · subst e
    rw [List.getElem?_set_self hl] at hi
    cases hi
    exact Store.hit
  · rw [List.getElem?_set_ne (Ne.symm e)] at hi
    exact Store.miss (L.ne i n (x := p.1) (o := p.2) hi h e) (L.get i hi)
theorem Led.setS {σ : Store} {l1 l2 : List (Addr × O)} {x : Addr} {o : O} (L : Led σ (l1 ++ (x, o) :: l2)) (o' : O) : Led (σ.upd x o') (l1 ++ (x, o') :: l2) := by
  have := L.set l1.length (x := x) (o := o) o' (by simp)
  simpa using this
theorem Led.new {σ : Store} {l : List (Addr × O)} (L : Led σ l) {x : Addr} (o : O) (h : σ x = none) : Led (σ.upd x o) ((x, o) :: l) := by
  refine ⟨?_, fun p hp => ?_⟩
  · rw [List.map_cons, List.nodup_cons]
    refine ⟨fun hm => ?_, L.nd⟩
    obtain ⟨p, hp, e⟩ := List.mem_map.mp hm
    have := L.at_ p hp
    rw [e, h] at this; cases this
  · rcases List.mem_cons.mp hp with rfl | hp
    · exact Store.hit
    · exact Store.at_fresh h (L.at_ p hp)
/-- what stands in the ledger is not what is free -/
theorem Led.free {σ : Store} {l : List (Addr × O)} (L : Led σ l) {x : Addr} (h : σ x = none) : x ∉ l.map (·.1) := fun hm => by
  obtain ⟨p, hp, e⟩ := List.mem_map.mp hm
  have := L.at_ p hp
  rw [e, h] at this; cases this
/-- a new object beside the ledger -/
theorem Led.add {σ σ' : Store} {l : List (Addr × O)} (L : Led σ l) (g : Grow σ σ') {x : Addr} {o : O} (h : σ x = none) (h' : σ' x = some o) : Led σ' ((x, o) :: l) := by
  refine ⟨?_, fun p hp => ?_⟩
  · rw [List.map_cons, List.nodup_cons]
    refine ⟨fun hm => ?_, L.nd⟩
    obtain ⟨p, hp, e⟩ := List.mem_map.mp hm
    have := L.at_ p hp
    rw [e, h] at this; cases this
  · rcases List.mem_cons.mp hp with rfl | hp
    · exact h'
    · exact g _ _ (L.at_ p hp)
theorem Led.add3 {σ σ' : Store} {l : List (Addr × O)} (L : Led σ l) (g : Grow σ σ') {x y z : Addr} {o1 o2 o3 : O} (h1 : σ x = none) (h2 : σ y = none) (h3 : σ z = none) (n1 : x ≠ y) (n2 : x ≠ z) (n3 : y ≠ z)
    (k1 : σ' x = some o1) (k2 : σ' y = some o2) (k3 : σ' z = some o3) : Led σ' ((x, o1) :: (y, o2) :: (z, o3) :: l) := by
  have a := L.free h1
  have b := L.free h2
  have c := L.free h3
  refine ⟨?_, fun p hp => ?_⟩
  · simp only [List.map_cons, List.nodup_cons, List.mem_cons, not_or]
    exact ⟨⟨n1, n2, a⟩, ⟨n3, b⟩, c, L.nd⟩
  · simp only [List.mem_cons] at hp
    rcases hp with rfl | rfl | rfl | hp
    · exact k1
    · exact k2
    · exact k3
    · exact g _ _ (L.at_ p hp)
theorem Led.grow {σ σ' : Store} {l : List (Addr × O)} (L : Led σ l) (g : Grow σ σ') : Led σ' l := ⟨L.nd, fun p hp => g _ _ (L.at_ p hp)⟩
theorem Led.perm {σ : Store} {l l' : List (Addr × O)} (L : Led σ l) (h : l'.Perm l) : Led σ l' := ⟨(h.map _).nodup_iff.mpr L.nd, fun p hp => L.at_ p (h.mem_iff.mp hp)⟩
theorem Led.sub {σ : Store} {l l' : List (Addr × O)} (L : Led σ l) (h : l'.Sublist l) : Led σ l' := ⟨(h.map _).nodup L.nd, fun p hp => L.at_ p (h.subset hp)⟩
/-- the kinds of two objects part their addresses -/
def O.kind : O → Nat
  | .list _ => 0
  | .sd _ => 1
  | .id _ => 2
  | .inst _ _ => 3
  | .tab _ _ => 4
  | .exc _ => 5
theorem Store.ne_kind {σ : Store} {x y : Addr} {o o' : O} (h1 : σ x = some o) (h2 : σ y = some o') (h : o.kind ≠ o'.kind) : x ≠ y := fun e => by
  subst e; rw [h1] at h2; cases h2; exact h rfl
end Mine

set_option autoImplicit false
set_option linter.unusedVariables false
namespace Mine
open PySem PySem.W PySem.SeqAt PyProof.Rows

section
variable {C : Cx} {A : Around} {env : Env} {ρ : Rho} {σ : Store} {X : XP} {s : Shared}

/-- what a while's body owes -/
def WhQ (I : Nat → Rho → Store → Prop) (n : Nat) (Q : FV → Rho → Store → Prop) (g : FV) (ρ : Rho) (σ : Store) : Prop :=
  match g with
  | .next | .cont => ∃ m, m < n ∧ I m ρ σ
  | .brk => Q .next ρ σ
  | .ret v => Q (.ret v) ρ σ
theorem WhQ.n {I : Nat → Rho → Store → Prop} {n : Nat} {Q : FV → Rho → Store → Prop} (h : ∃ m, m < n ∧ I m ρ σ) : WhQ I n Q .next ρ σ := h
/-- a while by an invariant with a measure -/
theorem Ex.while {test : Expr} {body : List Stmt} {pos : Pos} {Q : FV → Rho → Store → Prop} (I : Nat → Rho → Store → Prop)
    (turn : ∀ n ρ σ, I n ρ σ → Tst C A env test ρ σ (fun b σ1 => if b = true then Exs C A env body ρ σ1 (WhQ I n Q) (fun _ _ => False) else Q .next ρ σ1) (fun _ _ => False))
    (n : Nat) (h : I n ρ σ) : Ex C A env (.While test body [] pos) ρ σ Q X := by
  intro s S F
  refine wpAny_While (codeAny_whileLoop (fun n s' => ∃ ρ1 σ1, I n ρ1 σ1 ∧ St C σ1 s' ∧ Fm C σ1 s'.heap env ρ1 ∧ EvoF env σ s.heap σ1 s'.heap) ?_ n ⟨ρ, σ, h, S, F, .refl _⟩)
  rintro n s' ⟨ρ1, σ1, hI, S1, F1, e1⟩
  refine wpAny_mono (turn n ρ1 σ1 hI s' S1 F1) ?_ fun _ _ z => z.elim
  rintro b s2 ⟨σ2, h2, S2, e2⟩
  have F2 := F1.evo e2
  have e12 := e1.trans (e2.evoF F1.own)
  cases b with
  | false =>
    simp only [Bool.false_eq_true, if_false] at h2 ⊢
    exact wpAny_execs_nil ⟨.next, ρ1, σ2, h2, .next, S2, F2, e12⟩
  | true =>
    simp only [if_true] at h2 ⊢
    refine wpAny_mono (h2 s2 S2 F2) ?_ fun _ _ z => z.elim
    rintro f s3 ⟨g, ρ3, σ3, h3, r3, S3, F3, e3⟩
    have e13 := e12.trans e3
    cases r3 with
    | next => obtain ⟨m, hm, hI'⟩ := h3; exact ⟨m, hm, ρ3, σ3, hI', S3, F3, e13⟩
    | cont => obtain ⟨m, hm, hI'⟩ := h3; exact ⟨m, hm, ρ3, σ3, hI', S3, F3, e13⟩
    | brk => exact ⟨_, ρ3, σ3, h3, .next, S3, F3, e13⟩
    | ret r => exact ⟨_, ρ3, σ3, h3, .ret r, S3, F3, e13⟩

/- the last item of a tuple -/
theorem ItemWP.neg2 {x y : V} {Q : V → Store → Prop} (h : Q x σ) : ItemWP C A (.tup [y, x]) (.int (-1)) σ Q X :=
  ItemWP.tup (j := 1) (by decide) (by decide) rfl rfl h
theorem ItemWP.neg3 {x y z : V} {Q : V → Store → Prop} (h : Q x σ) : ItemWP C A (.tup [z, y, x]) (.int (-1)) σ Q X :=
  ItemWP.tup (j := 2) (by decide) (by decide) rfl rfl h
end
end Mine

set_option autoImplicit false
set_option linter.unusedVariables false
namespace Mine
open PySem PySem.W PySem.SeqAt PyProof.Rows

def enumV (xs : List V) : List V := xs.zipIdx.map fun p => .tup [.int (p.2 : Int), p.1]
theorem enumV_get {xs : List V} {k : Nat} : (enumV xs)[k]? = (xs[k]?).map fun x => V.tup [.int (k : Int), x] := by
  unfold enumV
  rw [List.getElem?_map, List.getElem?_zipIdx]
  cases xs[k]? <;> simp
section
variable {C : Cx} {A : Around} {env : Env} {ρ : Rho} {σ : Store} {X : XP} {s : Shared}

theorem Itr.enum {elts : List Expr} {k0 : Nat} {tp : Pos} {e it l : Addr} {xs : List V} (hh : A.handled = none) (hei : e ≠ it) (hle : l ≠ e) (hli : l ≠ it) :
    Itr C A (.Tuple elts k0 tp) (.ref e) (fun b => b = e ∨ b = it) (fun k h => (∃ old, IsEnum h e it k old) ∧ h.IsListIter it l k) (fun σ => LstAt C σ l xs) (enumV xs) where
  frame := fun k h h' ⟨⟨old, he⟩, hit⟩ _ kp => ⟨⟨old, kp e _ (.inl rfl) he⟩, hit.at fun o x => kp it o (.inr rfl) x⟩
  notTup := fun k h b o' ⟨⟨old, he⟩, ⟨o, eo, c, _⟩⟩ q z => by
    rcases q with rfl | rfl
    · rw [he] at z; cases z; exact Imm.not (by simp) (by simp) (by simp)
    · rw [eo] at z; cases z; exact Imm.not (by rw [c]; simp) (by rw [c]; simp) (by rw [c]; simp)
  notD := fun k h b o' ⟨⟨old, he⟩, ⟨o, eo, c, d⟩⟩ q z es n w => by
    rcases q with rfl | rfl
    · rw [he] at z; cases z; cases w
    · rw [eo] at z; cases z; rw [d] at w; cases w
  there := fun k h b ⟨⟨old, he⟩, ⟨o, eo, _⟩⟩ q => by
    rcases q with rfl | rfl
    · exact ⟨_, he⟩
    · exact ⟨_, eo⟩
  more := fun k σ s x Q X S hok hJ hx no hQ => by
    obtain ⟨items, hl, hr⟩ := hok.raw S
    obtain ⟨⟨old, he⟩, hit⟩ := hJ
    rw [enumV_get] at hx
    obtain ⟨y, hy, rfl⟩ := Option.map_eq_some_iff.mp hx
    obtain ⟨u, hu, ru⟩ := hr.get hy
    refine wpAny_pyNext_enum_item he hit hl (by simpa using hu) hei fun h' ho hit' hT hsz hk => ?_
    have helt : e < s.heap.objs.size := Heap.lt_size he
    have hilt : it < s.heap.objs.size := by obtain ⟨_, x, _⟩ := hit; exact Heap.lt_size x
    have kp : ∀ b o, ¬ (b = e ∨ b = it) → s.heap.get? b = some o → h'.get? b = some o := fun b o q e' => hk b o (fun z => q (.inl z)) (fun z => q (.inr z)) e'
    have tk : TupKeep s.heap h' := tk_ow (ow := fun b => b = e ∨ b = it) kp fun b o' q z => by
      obtain ⟨o, eo, c, _⟩ := hit
      rcases q with rfl | rfl
      · rw [he] at z; cases z; exact Imm.not (by simp) (by simp) (by simp)
      · rw [eo] at z; cases z; exact Imm.not (by rw [c]; simp) (by rw [c]; simp) (by rw [c]; simp)
    refine hQ (.ref s.heap.objs.size) h' (s.toks + 1) (.tup (n := 0) hT (.cons (.int _ _) (.cons (ru.mono tk) .nil))) kp (fun b o' q z => ?_) fun Q' X' hq => ?_
    · obtain ⟨o, eo, c, _⟩ := hit'
      rcases q with rfl | rfl
      · rw [ho] at z; cases z; exact Imm.not (by simp) (by simp) (by simp)
      · rw [eo] at z; cases z; exact Imm.not (by rw [c]; simp) (by rw [c]; simp) (by rw [c]; simp)
    · refine wpAny_letOwnedTupleGo_enum (s := { s with heap := h', toks := s.toks + 1 }) ho fun h'' he'' hs'' => ?_
      refine hq h'' (s.toks + 1) ⟨⟨_, by simpa using he''⟩, hit'.at fun o y => (hs''.2 it hei.symm).trans y⟩ fun b o q y => (hs''.2 b fun z => q (.inl z)).trans y
  self := fun k s Q X ⟨⟨old, he⟩, _⟩ hq => wpAny_pyIter_enum he hq
  done := fun k σ s Q X S hok hJ hx no hQ => by
    obtain ⟨items, hl, hr⟩ := hok.raw S
    obtain ⟨⟨old, he⟩, hit⟩ := hJ
    have hn : items[k]? = none := by
      rw [enumV_get, Option.map_eq_none_iff] at hx
      have h1 := List.getElem?_eq_none_iff.mp hx
      have h2 := hr.length
      simp only [Array.length_toList] at h2
      exact Array.getElem?_eq_none_iff.mpr (by (first | lia | omega))
    exact wpAny_pyNext_enum_end hh he hit hl hn fun h' hx => hQ h' s.toks fun b o q y => hx b o (fun z => q (.inr z)) y

/-- a tuple that stands at the text's top -/
theorem VR.gtup {a : Addr} {items : List Value} {n : Nat} {vs : List V} (h : C.K.lookup a = some (tupObj items.toArray n)) (r : VRs C.h₀ items vs) : VR C.h₀ (.ref a) (.tup vs) :=
  .tup (C.KX a _ h) (by simpa using r)
theorem Src.enum {e func : Expr} {pos : Pos} {elts : List Expr} {k0 : Nat} {tp : Pos} {Q : List V → (Store → Prop) → Store → Prop} (hh : A.handled = none)
    (h : Ev C A env func ρ σ (fun fx σ1 => fx = .typ "enumerate" ∧ Ags C A env pos [e] ρ σ1 (fun xs σ2 => ∃ l ys, xs = [.ref l] ∧ LstAt C σ2 l ys ∧ Q (enumV ys) (fun σ => LstAt C σ l ys) σ2) X) X)
    (hev : eval (.Call func [e] [] pos) env = (do callWith pos (← eval func env) [] (backTo pos (starEach [e] env)) (backToKw pos (keywordEach [] env))) := by kernel_rfl)
    (he : (backTo pos (starEach [e] env)).any (·.1) = false := by kernel_rfl) : Src C A env (.Tuple elts k0 tp) (.Call func [e] [] pos) ρ σ Q X := by
  intro s S F
  rw [hev]
  refine wpAny_bind (wpAny_mono (h s S F) ?_ fun _ _ z => z)
  rintro v s1 ⟨x, σ1, ⟨rfl, q⟩, r1, S1, e1⟩
  cases r1
  refine callWith_of (P := fun h => ∀ b o, C.h₀.get? b = some o → h.get? b = some o) (by rw [he]; rfl) Kp.typ ?_
  refine evalArgs_sp he (wpAny_mono (q s1 S1 (F.evo e1)) ?_ fun _ _ z => z)
  rintro vs s2 ⟨xs, σ2, ⟨l, ys, rfl, hl, hq⟩, r2, S2, e2⟩
  refine ⟨S2.base, ?_⟩
  cases r2 with
  | cons ra rb =>
    cases rb
    cases ra
    obtain ⟨items, il, rl⟩ := hl.raw S2
    have hlt : l < s2.heap.objs.size := by obtain ⟨_, z, _⟩ := il; exact Heap.lt_size z
    refine call_enumerate_list il fun h' hE hI hz kp => ?_
    refine wpAny_pyIter_enum (s := { s2 with heap := h' }) hE ?_
    have e12 := e1.trans e2
    have fr : ∀ b, (b = s2.heap.objs.size + 1 ∨ b = s2.heap.objs.size) → s2.heap.objs.size ≤ b := fun b w => by
      rcases w with w | w
      · rw [w]; exact Nat.le_succ _
      · rw [w]; exact Nat.le_refl _
    exact ⟨enumV ys, _, σ2, _, _, hq, Itr.enum hh (Nat.ne_of_gt (Nat.lt_succ_self _)) (Nat.ne_of_lt (Nat.lt_succ_of_lt hlt)) (Nat.ne_of_lt hlt), hl, S2.ext (t := s2.toks) kp, e12.trans (.ext kp), fun b w => ⟨Evo.fresh (h' := s2.heap) S2 e12 (fr b w), S2.fresh' (fr b w)⟩, ⟨⟨_, hE⟩, hI⟩⟩
theorem Src.enumN {e : Expr} {p pos : Pos} {elts : List Expr} {k0 : Nat} {tp : Pos} {Q : List V → (Store → Prop) → Store → Prop} (hh : A.handled = none)
    (h : Ev C A env (.Name (Str.ofString "enumerate") p) ρ σ (fun fx σ1 => fx = .typ "enumerate" ∧ Ags C A env pos [e] ρ σ1 (fun xs σ2 => ∃ l ys, xs = [.ref l] ∧ LstAt C σ2 l ys ∧ Q (enumV ys) (fun σ => LstAt C σ l ys) σ2) X) X)
    (hev : eval (.Call (.Name (Str.ofString "enumerate") p) [e] [] pos) env = (do callWith pos (← eval (.Name (Str.ofString "enumerate") p) env) [] (backTo pos (starEach [e] env)) (backToKw pos (keywordEach [] env))) := by kernel_rfl)
    (he : (backTo pos (starEach [e] env)).any (·.1) = false := by kernel_rfl) : Src C A env (.Tuple elts k0 tp) (.Call (.Name (Str.ofString "enumerate") p) [e] [] pos) ρ σ Q X := Src.enum hh h hev he
theorem enumV_map {α : Type} (f : α → V) (xs : List α) : enumV (xs.map f) = xs.zipIdx.map fun p => V.tup [.int (p.2 : Int), f p.1] := by
  unfold enumV
  rw [List.zipIdx_map, List.map_map]
  rfl
end
end Mine

set_option autoImplicit false
set_option linter.unusedVariables false
set_option maxRecDepth 100000
namespace Mine
open PySem PySem.W PySem.SeqAt PyProof.Rows

section
variable {prog : Program} {w : World} {A : Around} {E : Value → Shared → Prop} {s : Shared}
theorem isi_nested {P : Shared → Prop} (hP : ∀ s tk, P s → P { s with toks := tk }) {x : Value} {Tx : String} {tp : Addr} {cs : List Value} {vs : List Bool} {n : Nat} {tk : Tok} {s : Shared} {Q : PySem.Fin → Shared → Prop}
    (hx : s.TypeIs x Tx) (htp : s.heap.get? tp = some { cls := .type "tuple", data := .seq cs.toArray n }) (ha : AnswersAll P x cs vs) (hs : P s)
    (hq : ∀ tk', Q (.done (.ret (.bool (vs.any id)))) { s with toks := tk' }) : wpAny (model prog w) A (Builtin.«isinstance.nested» ⟨[x, .ref tp, .int 0 tk], []⟩) Q E s := by
  obtain ⟨h, g, d, t, os⟩ := s
  have hT2 : (⟨h, g, d, t, os⟩ : Shared).TypeIs (.ref tp) "tuple" := ⟨_, htp, rfl⟩
  have f1 := F.isi_sub_tuple
  repeat (any_goals (first | assumption | wp_step))
  refine wpAny_arrayLoop ?_
  simp only [Option.getD_some, List.toList_toArray]
  refine isinstance_items (dep := 0) hP cs vs _ _ ha hs fun tk' => ?_
  cases hv : vs.any id with
  | true =>
    simp only [if_true]
    repeat (any_goals (first | assumption | wp_step))
    exact hv ▸ hq tk'
  | false =>
    simp only [Bool.false_eq_true, if_false]
    repeat (any_goals (first | assumption | wp_step))
    exact hv ▸ hq tk'
theorem isi_tup {x : Value} {Tx : String} {tp : Addr} {cs : List Value} {vs : List Bool} {n : Nat} (ha : AnswersAll (fun s => s.TypeIs x Tx) x cs vs) :
    Meets (Builtin.«isinstance» ⟨[x, .ref tp], []⟩)
      (fun _ R s => s.TypeIs x Tx ∧ s.heap.get? tp = some { cls := .type "tuple", data := .seq cs.toArray n } ∧ ∀ tk, R (.ok (.ret (.bool (vs.any id)))) { s with toks := tk }) :=
  fun _ _ _ _ _ hs => isinstance_outer (isi_nested (fun _ tk h => h.toks tk) hs.1 hs.2.1 ha hs.1 hs.2.2) (Shared.TypeIs.not_mainsLoader hs.1)
end
section
variable {C : Cx} {A : Around} {σ : Store} {X : XP}
/-- isinstance(x, (list, tuple)) of a list or a tuple -/
theorem CallWP.isiLT {x : V} {t : Ty} {Q : V → Store → Prop} (ht : HasTy C σ x t) (h2 : t = .list ∨ t = .tup) (h : Q (.bool true) σ) : CallWP C A (.builtin "isinstance") [x, .tup [.typ "list", .typ "tuple"]] σ Q X := by
  intro s vs S r
  obtain ⟨_, _, rfl, r1, r2⟩ := r.two
  have b := ht.bears S r1
  obtain ⟨tp, ⟨it⟩, n, rfl, hg, hr⟩ := r2.tupI
  obtain ⟨_, _, hi, q1, q2⟩ := hr.two
  simp only at hi
  subst hi
  obtain rfl := q1.typI
  obtain rfl := q2.typI
  rcases h2 with rfl | rfl
  · obtain ⟨a, o, rfl, e, c⟩ := b
    exact call_isinstance (isi_tup (Tx := "list") (n := n) (cs := [.type "list", .type "tuple"]) (vs := [true, false]) (.cons (.of_true F.isi_meta_list F.sub_list_list) (.cons (.of_false_list (by decide +kernel) F.isi_meta_tuple F.sub_list_tuple) .nil))) ⟨⟨o, e, c⟩, hg, fun tk => EP.pureT S h (.bool _)⟩
  · obtain ⟨a, o, rfl, e, c⟩ := b
    exact call_isinstance (isi_tup (Tx := "tuple") (n := n) (cs := [.type "list", .type "tuple"]) (vs := [false, true]) (.cons (.of_false_tuple (by decide +kernel) F.isi_meta_list F.sub_tuple_list) (.cons (.of_true F.isi_meta_tuple F.sub_tuple_tuple) .nil))) ⟨⟨o, e, c⟩, hg, fun tk => EP.pureT S h (.bool _)⟩
end
end Mine

set_option autoImplicit false
set_option linter.unusedVariables false
namespace Mine
open PySem PySem.W PySem.SeqAt PyProof.Rows

section
variable {C : Cx} {A : Around} {env : Env} {ρ : Rho} {σ : Store} {X : XP} {s : Shared}
theorem CmpWP.isB {a b : Bool} {Q : V → Store → Prop} (h : Q (.bool (a == b)) σ) : CmpWP C A .Is (.bool a) (.bool b) σ Q X := by
  intro s a b S ra rb
  obtain rfl := ra.boolI
  obtain rfl := rb.boolI
  exact PyProof.Rows.is_bool (EP.pure S h (.bool _))
end
end Mine

set_option autoImplicit false
set_option linter.unusedVariables false
namespace Mine
open PySem PySem.W PySem.SeqAt PyProof.Rows
section
variable {C : Cx} {A : Around} {env : Env} {ρ : Rho} {σ : Store} {X : XP}
theorem is.nm {x : Str} {pos : Pos} {Q : V → Store → Prop} (h : Ev C A env (.Name x pos) ρ σ Q X) : Ev C A env (.Name x pos) ρ σ Q X := h
theorem is.cl {f : Expr} {args : List Expr} {pos : Pos} {Q : V → Store → Prop} (h : Ev C A env (.Call f args [] pos) ρ σ Q X) : Ev C A env (.Call f args [] pos) ρ σ Q X := h
theorem is.lc {elt : Expr} {gens : List Comprehension} {scope : Scope} {pos : Pos} {Q : V → Store → Prop} (h : Ev C A env (.ListComp elt gens scope pos) ρ σ Q X) : Ev C A env (.ListComp elt gens scope pos) ρ σ Q X := h
theorem is.alc {t elt : Expr} {gens : List Comprehension} {scope : Scope} {pos spos : Pos} {Q : FV → Rho → Store → Prop} (h : Ex C A env (.Assign [t] (.ListComp elt gens scope pos) spos) ρ σ Q X) : Ex C A env (.Assign [t] (.ListComp elt gens scope pos) spos) ρ σ Q X := h
end
end Mine

set_option autoImplicit false
namespace Mine
theorem is.br {b : Bool} {P Q : Prop} (h : if b = true then P else Q) : if b = true then P else Q := h
end Mine

set_option autoImplicit false
set_option linter.unusedVariables false
set_option maxRecDepth 100000
namespace Mine
open PySem PySem.W PySem.SeqAt PyProof.Rows
/- own exceptions that fly through frames and loops; P: what stands of the store behind them -/
/-- the frames below stand, and are not this one -/
def FrO (C : Cx) (σ : Store) (h : Heap) (env : Env) (l : List Env) : Prop := Frs C σ h l ∧ ∀ e' ∈ l, ∀ L, e'.frame = some L → ¬ Own env L
/-- an own exception in this frame: made here, noted here, or come from a call -/
def XE (C : Cx) (env : Env) (l : List Env) (σ : Store) (h : Heap) (D : Addr) (P : Store → Prop) (v : Value) (s' : Shared) : Prop :=
  ∃ σ1 ρ1 h1 e, v = .ref e ∧ P σ1 ∧ St C σ1 { s' with heap := h1 } ∧ Fm C σ1 h1 env ρ1 ∧ FrO C σ1 h1 env l ∧ EvoF env σ h σ1 h1 ∧ h1.get? e = none ∧ h1.UpToSlots s'.heap ∧
    ((∃ vs, Heap.MadeExcOf h1 s'.heap e (.ref D) vs) ∨ ∃ B t fs, Hid C σ1 h1 fs ∧ (∀ b o, h1.get? b = some o → b ∉ fs → B.get? b = some o) ∧
      (Heap.HeldW B (env :: l) e (.ref D) (.ref t) env.locals s'.heap ∨ Heap.FlyingW B (env :: l) e (.ref D) (.ref t) s'.heap))
/-- an own exception out of a call -/
def XF (C : Cx) (σ : Store) (h : Heap) (l : List Env) (D : Addr) (P : Store → Prop) (v : Value) (s' : Shared) : Prop :=
  ∃ σ1 h1 e B t fs, v = .ref e ∧ P σ1 ∧ St C σ1 { s' with heap := h1 } ∧ Evo σ h σ1 h1 ∧ Hid C σ1 h1 fs ∧ (∀ b o, h1.get? b = some o → b ∉ fs → B.get? b = some o) ∧ h1.get? e = none ∧ h1.UpToSlots s'.heap ∧ Heap.FlyingW B l e (.ref D) (.ref t) s'.heap
section
variable {C : Cx} {A : Around} {env : Env} {ρ : Rho} {σ : Store} {X : XP} {s : Shared} {l : List Env} {D : Addr} {P : Store → Prop}
theorem FrO.evoF {σ' : Store} {h h' : Heap} (x : FrO C σ h env l) (e : EvoF env σ h σ' h') : FrO C σ' h' env l := by
  refine ⟨fun e' he => ?_, x.2⟩
  obtain ⟨hk, L, m, hf, hm, hn, hl⟩ := x.1 e' he
  have hw := x.2 e' he L hf
  have hm' := ns_kept hm fun o q => e.keep _ _ q hn hw
  obtain ⟨o, es, ep, ho, rest⟩ := hm
  refine ⟨hk, L, m, hf, hm', ?_, hl⟩
  cases q : σ' L with
  | none => rfl
  | some o2 =>
    rcases e.dom L o2 q with ⟨o', e'⟩ | e'
    · rw [hn] at e'; cases e'
    · rw [ho] at e'; cases e'
theorem XE.after {σ1 : Store} {h h1 : Heap} {v : Value} {s' : Shared} (x : XE C env l σ1 h1 D P v s') (k : EvoF env σ h σ1 h1) : XE C env l σ h D P v s' := by
  obtain ⟨a, b, c, d, e, f, g, i, j, q, r⟩ := x
  exact ⟨a, b, c, d, e, f, g, i, j, k.trans q, r⟩
theorem XF.after {σ1 : Store} {h h1 : Heap} {v : Value} {s' : Shared} (x : XF C σ1 h1 l D P v s') (k : Evo σ h σ1 h1) : XF C σ h l D P v s' := by
  obtain ⟨a, b, c, d, e, f, g, i, j, q, r⟩ := x
  exact ⟨a, b, c, d, e, f, g, i, j, k.trans q, r⟩
theorem Fm.frsO {h : Heap} (F : Fm C σ h env ρ) (hf : env.frame = some env.locals) (x : FrO C σ h env l) : Frs C σ h (env :: l) := F.frs hf x.1
/-- noted in this frame -/
theorem XE.note {h : Heap} {v : Value} {s' : Shared} {E : XP} {Q : Unit → Shared → Prop} (hfr : A.frames = some (env :: l)) (hf : env.frame = some env.locals) (x : XE C env l σ h D P v s')
    (k : ∀ h' σ1 ρ1 h1 e B t fs, v = .ref e → P σ1 → St C σ1 { s' with heap := h1 } → Fm C σ1 h1 env ρ1 → FrO C σ1 h1 env l → EvoF env σ h σ1 h1 → Hid C σ1 h1 fs → (∀ b o, h1.get? b = some o → b ∉ fs → B.get? b = some o) → h1.get? e = none → h1.UpToSlots h' → Heap.HeldW B (env :: l) e (.ref D) (.ref t) env.locals h' → Q () { s' with heap := h' }) :
    wpAny C.M A (noteFrame v env) Q E s' := by
  obtain ⟨σ1, ρ1, h1, e, rfl, p, S1, F1, O1, e1, hn, up, ⟨vs, hx⟩ | ⟨B, t, fs, H, cov, hh | fl⟩⟩ := x
  · have Fs := F1.frsO hf O1
    obtain ⟨t, he, htn, ht⟩ := hx.there
    unfold noteFrame
    simp only [hf]
    refine wpAny_bind (wpAny_field he rfl rfl ?_)
    rw [if_neg (fun q => by cases q)]
    have cov : ∀ b o, h1.get? b = some o → b ∉ (env :: l).filterMap (·.frame) → (hideAll h1 ((env :: l).filterMap (·.frame))).get? b = some o := fun b o q n => hideAll_get _ q n
    have fresh : ∀ b, h1.get? b = none → (hideAll h1 ((env :: l).filterMap (·.frame))).get? b = none := fun b hb => by
      cases hq : (hideAll h1 ((env :: l).filterMap (·.frame))).get? b with
      | none => rfl
      | some o' => have := of_hideAll _ hq; rw [hb] at this; cases this
    refine wpAny_entryW (base := hideAll h1 ((env :: l).filterMap (·.frame))) (a0 := .ref t) hfr ((Fs.fun fun b hb => hb).of_keeps fun b o hb _ => ⟨o, hx.keeps b o hb, rfl⟩) hf he (fun b o hb => hx.keeps b o (of_hideAll _ hb)) (fresh e hx.new) rfl (show 1 < 6 by decide) rfl fun h' hN => ?_
    obtain ⟨k1, k2, k3, k4⟩ := hN
    exact k h' σ1 ρ1 h1 e _ t _ rfl p S1 F1 O1 e1 Fs.hid cov hn (up.trans k4) ⟨k1, fresh e hx.new, k2, k3⟩
  · exact wpAny_noteFrame_againW hf hh.2.2.2 (k s'.heap σ1 ρ1 h1 e B t fs rfl p S1 F1 O1 e1 H cov hn up hh)
  · exact wpAny_looks_onW hfr hf fl fun h' hh up' => k h' σ1 ρ1 h1 e B t fs rfl p S1 F1 O1 e1 H cov hn (up.trans up') hh
theorem held_back {l : List Env} {B : Heap} {e L : Addr} {cls a0 : Value} {s : Shared} {M : Model} {E : XP} {Q : Unit → Shared → Prop} (hh : Heap.HeldW B l e cls a0 L s.heap)
    (hQ : ∀ h', Heap.HeldW B l e cls a0 L h' → s.heap.UpToSlots h' → Q () { s with heap := h' }) : wpAny M A (do
      if (← field (.ref e) 1) == .none then unsupported "frame.own-activation:exception-without-traceback"
      setFlight (.ref e) (some L)) Q E s := by
  obtain ⟨hkb, hen, hl, oe, vs, T, oT, ts, he, hcls, hd, h1, hnT, hTe, hT, hdT, h3⟩ := hh
  have hsz3 : 3 < ts.size := (Array.getElem?_eq_some_iff.mp h3).1
  have other : ∀ b, b ≠ T → (s.heap.update T (Obj.mapFields (·.setIfInBounds 3 ((some L : Option Addr).elim Value.none fun f => rawInt f)))).get? b = s.heap.get? b :=
    fun b hb => Heap.get?_update_other _ _ (Ne.symm hb)
  have noRecord : ∀ b o, s.heap.get? b = some o → (∀ vs, o.data ≠ .fields vs) → b ≠ T := fun b o hb hnf q => by
    rw [q, hT] at hb; injection hb with hb; subst hb; exact hnf ts hdT
  refine wpAny_bind (wpAny_field he hd h1 ?_)
  rw [if_neg (fun q => by cases q)]
  unfold setFlight
  refine wpAny_bind (wpAny_field he hd h1 ?_)
  rw [if_pos (show (Value.ref T != Value.none) = true from by simp)]
  refine wpAny_setField hT hdT hsz3 (hQ _ ⟨fun b o hbo => (other b fun q => by rw [q, hnT] at hbo; cases hbo).trans (hkb b o hbo), hen,
    hl.of_keeps fun b o hb hnf => ⟨o, (other b (noRecord b o hb hnf)).trans hb, rfl⟩, ?_⟩ fun b o hb hn => ⟨o.slots, (other b (noRecord b o hb hn)).trans hb⟩)
  exact ⟨oe, vs, T, _, _, (other e (Ne.symm hTe)).trans he, hcls, hd, h1, hnT, hTe, Heap.get?_update_self _ hT (Obj.isFreed_of_fields (Obj.data_mapFields hdT _)), Obj.data_mapFields hdT _, by simp [hsz3]⟩
/-- noted, and come back out of a loop -/
theorem XE.back {h : Heap} {v : Value} {s' : Shared} {E : XP} (hfr : A.frames = some (env :: l)) (hf : env.frame = some env.locals) (x : XE C env l σ h D P v s') : wpAny C.M A (noteFrame v env) (fun _ s'' => cameBackBy C.M A env (XE C env l σ h D P) v s'') E s' :=
  x.note hfr hf fun h' σ1 ρ1 h1 e B t fs e0 p S1 F1 O1 e1 H cov hn up hh => by
    subst e0
    unfold cameBackBy
    rw [hf]
    exact held_back hh fun h'' hh' up' => ⟨σ1, ρ1, h1, e, rfl, p, S1, F1, O1, e1, hn, up.trans up', .inr ⟨B, t, fs, H, cov, .inl hh'⟩⟩
/-- out of this frame -/
theorem XE.leaves {h : Heap} {v : Value} {s' : Shared} {E : XP} {Q : Unit → Shared → Prop} (hfr : A.frames = some (env :: l)) (hf : env.frame = some env.locals) (x : XE C env l σ h D P v s')
    (k : ∀ h' σ1 ρ1 h1 e B t fs, v = .ref e → P σ1 → St C σ1 { s' with heap := h1 } → Fm C σ1 h1 env ρ1 → EvoF env σ h σ1 h1 → Hid C σ1 h1 fs → (∀ b o, h1.get? b = some o → b ∉ fs → B.get? b = some o) → h1.get? e = none → h1.UpToSlots h' → Heap.FlyingW B l e (.ref D) (.ref t) h' → Q () { s' with heap := h' }) : wpAny C.M A (leaving env v) Q E s' := by
  obtain ⟨σ1, ρ1, h1, e, rfl, p, S1, F1, O1, e1, hn, up, ⟨vs, hx⟩ | ⟨B, t, fs, H, cov, hh | fl⟩⟩ := x
  · have Fs := F1.frsO hf O1
    have cov : ∀ b o, h1.get? b = some o → b ∉ (env :: l).filterMap (·.frame) → (hideAll h1 ((env :: l).filterMap (·.frame))).get? b = some o := fun b o q n => hideAll_get _ q n
    refine wpAny_leaves_madeW (base := hideAll h1 ((env :: l).filterMap (·.frame))) (h := h1) hfr hf (fun b o q => of_hideAll _ q) (Fs.fun fun b hb => hb) hx fun h' t x1 x2 x3 x4 => ?_
    exact k h' σ1 ρ1 h1 e _ t _ rfl p S1 F1 e1 Fs.hid cov hn (up.trans x4) x1
  · unfold leaving
    refine wpAny_bind (wpAny_noteFrame_againW hf hh.2.2.2 ?_)
    refine wpAny_landsW hh fun h' hfl u' => ?_
    obtain ⟨k1, k2, ⟨_, _, k3⟩, k4⟩ := hfl
    exact k h' σ1 ρ1 h1 e B t fs rfl p S1 F1 e1 H cov hn (up.trans u') ⟨k1, k2, k3, k4⟩
  · exact wpAny_leaves_onW hfr hf fl fun h' x1 u' => k h' σ1 ρ1 h1 e B t fs rfl p S1 F1 e1 H cov hn (up.trans u') x1
/-- statements that may raise D -/
def ExR (C : Cx) (A : Around) (env : Env) (l : List Env) (D : Addr) (P : Store → Prop) (st : Stmt) (ρ : Rho) (σ : Store) (Q : FV → Rho → Store → Prop) : Prop :=
  ∀ s, St C σ s → Fm C σ s.heap env ρ → FrO C σ s.heap env l → wpAny C.M A (exec st env) (SP C env σ s.heap Q) (XE C env l σ s.heap D P) s
def ExsR (C : Cx) (A : Around) (env : Env) (l : List Env) (D : Addr) (P : Store → Prop) (ss : List Stmt) (ρ : Rho) (σ : Store) (Q : FV → Rho → Store → Prop) : Prop :=
  ∀ s, St C σ s → Fm C σ s.heap env ρ → FrO C σ s.heap env l → wpAny C.M A (execs ss env) (SP C env σ s.heap Q) (XE C env l σ s.heap D P) s
def EvR (C : Cx) (A : Around) (env : Env) (l : List Env) (D : Addr) (P : Store → Prop) (e : Expr) (ρ : Rho) (σ : Store) (Q : V → Store → Prop) : Prop :=
  ∀ s, St C σ s → Fm C σ s.heap env ρ → FrO C σ s.heap env l → wpAny C.M A (eval e env) (EP C σ s.heap Q) (XE C env l σ s.heap D P) s
def CallX (C : Cx) (A : Around) (l : List Env) (D : Addr) (P : Store → Prop) (f : Value) (args : List V) (σ : Store) (Q : V → Store → Prop) : Prop :=
  ∀ s vs, St C σ s → VRs s.heap vs args → Frs C σ s.heap l → wpAny C.M A (call f vs) (EP C σ s.heap Q) (XF C σ s.heap l D P) s
def ThenR (C : Cx) (A : Around) (env : Env) (l : List Env) (D : Addr) (P : Store → Prop) (ss : List Stmt) (Q : FV → Rho → Store → Prop) (g : FV) (ρ : Rho) (σ : Store) : Prop :=
  match g with
  | .next => ExsR C A env l D P ss ρ σ Q
  | g => Q g ρ σ
variable {Q : FV → Rho → Store → Prop}
theorem ExR.of {st : Stmt} (h : Ex C A env st ρ σ Q (fun _ _ => False)) : ExR C A env l D P st ρ σ Q :=
  fun s S F _ => wpAny_mono (h s S F) (fun _ _ z => z) fun _ _ z => z.elim
theorem ExsR.of {ss : List Stmt} (h : Exs C A env ss ρ σ Q (fun _ _ => False)) : ExsR C A env l D P ss ρ σ Q :=
  fun s S F _ => wpAny_mono (h s S F) (fun _ _ z => z) fun _ _ z => z.elim
theorem ExsR.cons {st : Stmt} {ss : List Stmt} (h : ExR C A env l D P st ρ σ (ThenR C A env l D P ss Q)) : ExsR C A env l D P (st :: ss) ρ σ Q := by
  intro s S F O
  refine wpAny_execs_cons (wpAny_mono (h s S F O) ?_ fun _ _ z => z)
  rintro f s1 ⟨g, ρ1, σ1, h1, r1, S1, F1, e1⟩
  cases r1 with
  | next => exact wpAny_mono (h1 s1 S1 F1 (O.evoF e1)) (fun _ _ z => z.after e1) fun _ _ z => z.after e1
  | brk => exact ⟨_, _, _, h1, .brk, S1, F1, e1⟩
  | cont => exact ⟨_, _, _, h1, .cont, S1, F1, e1⟩
  | ret r => exact ⟨_, _, _, h1, .ret r, S1, F1, e1⟩
/-- a statement that raises nothing, then on -/
theorem ExsR.step {st : Stmt} {ss : List Stmt} (I : Rho → Store → Prop) (h1 : Ex C A env st ρ σ (fun g ρ' σ' => g = .next ∧ I ρ' σ') (fun _ _ => False)) (h2 : ∀ ρ' σ', I ρ' σ' → ExsR C A env l D P ss ρ' σ' Q) : ExsR C A env l D P (st :: ss) ρ σ Q :=
  ExsR.cons (ExR.of (h1.mono fun g ρ' σ' ⟨e, p⟩ => by subst e; exact h2 ρ' σ' p))
theorem ExR.ite {t : Expr} {b1 b2 : List Stmt} {pos : Pos} (h : Tst C A env t ρ σ (fun b σ1 => if b then ExsR C A env l D P b1 ρ σ1 Q else ExsR C A env l D P b2 ρ σ1 Q) (fun _ _ => False)) : ExR C A env l D P (.If t b1 b2 pos) ρ σ Q := by
  intro s S F O
  refine wpAny_If (wpAny_mono (h s S F) ?_ fun _ _ z => z.elim)
  rintro b s1 ⟨σ1, h1, S1, e1⟩
  have e2 := e1.evoF F.own
  cases b
  · exact wpAny_mono (h1 s1 S1 (F.evo e1) (O.evoF e2)) (fun _ _ z => z.after e2) fun _ _ z => z.after e2
  · exact wpAny_mono (h1 s1 S1 (F.evo e1) (O.evoF e2)) (fun _ _ z => z.after e2) fun _ _ z => z.after e2
/-- raise x(e₀) -/
theorem ExR.raise {e₀ : Expr} {x : Str} {np cpos pos : Pos} {bm : List Value} {B newId initId : String} (O : OwnCls x D bm newId C.mg C.h₀) (FB : ExcBaseFacts B newId initId bm) (hh : A.handled = none)
    (hx : env.kindOf x = some .globalImplicit) (hg : env.globals = mainGlobals) (h : Ev C A env e₀ ρ σ (fun _ σ1 => P σ1) (fun _ _ => False))
    (hd : (x == ("__debug__" : Str)) = false) (he : starEach [e₀] env = [(false, eval e₀ env)]) : ExR C A env l D P (.Raise (some (.Call (.Name x np) [e₀] [] cpos)) none pos) ρ σ Q := by
  intro s1 S1 F1 O1
  obtain ⟨tl, N, nm, q, bs, hdct, sn, sub, ab, col, dd, k0, k1, k2, k3, k5, mN, hC, hN, hni, T⟩ := O.obj
  refine wpAny_Raise_call_subT (C := D) (nm := nm) (q := q) (N := N) (bs := bs) (bm := tl) (hdct := hdct) (sn := sn) (sub := sub) (ab := ab) (col := col) (dd := dd) (k0 := k0) (k1 := k1) (k2 := k2) (k3 := k3) (k5 := k5)
    FB (mN := mN) (T.hasType FB.hasBase) hh (by rw [he]; rfl) hni (Calls.Name_function_global F1.fn hx (Calls.loadGlobal_global (mg := C.mg) (by rw [hg]; exact C.hg.keeps S1.base) O.bound ⟨rfl, ?_⟩) hd)
  rw [he]
  refine evalArgs_sp rfl (Calls.spliced_cons (wpAny_mono (h s1 S1 F1) ?_ fun _ _ z => z.elim))
  rintro v s2 ⟨y, σ2, p, r2, S2, e2⟩
  refine Calls.spliced_nil ⟨rfl, (by show 1 ≤ sizeLine; decide), S2.base _ _ hC, hN.keeps S2.base, T.keeps S2.base, fun h' e hm => ?_⟩
  exact ⟨σ2, ρ, s2.heap, e, rfl, p, S2, F1.evo e2, O1.evoF (e2.evoF F1.own), e2.evoF F1.own, hm.new, Heap.UpToSlots.of_keeps hm.keeps, .inl ⟨_, hm⟩⟩
/-- the turns of a for, item by item -/
def ForR (C : Cx) (A : Around) (env : Env) (l : List Env) (D : Addr) (P : Store → Prop) (target : Expr) (body : List Stmt) (ok : Store → Prop) (Q : FV → Rho → Store → Prop) : List V → Rho → Store → Prop
  | [], ρ, σ => Q .next ρ σ
  | x :: xs, ρ, σ => Asg C A env target x ρ σ (fun ρ1 σ1 => ExsR C A env l D P body ρ1 σ1 (fun g ρ2 σ2 => match g with
      | .next | .cont => ok σ2 ∧ ForR C A env l D P target body ok Q xs ρ2 σ2
      | .brk => Q .next ρ2 σ2
      | .ret v => Q (.ret v) ρ2 σ2)) (fun _ _ => False)
theorem forR_turns {target : Expr} {it : Value} {body : List Stmt} {ow : Addr → Prop} {J : Nat → Heap → Prop} {ok : Store → Prop} {xs : List V} (W : Itr C A target it ow J ok xs) {σ0 : Store} {h0 : Heap}
    (hfr : A.frames = some (env :: l)) (hf : env.frame = some env.locals)
    (fr : ∀ b, ow b → h0.get? b = none) (fro : ∀ b, ow b → ¬ Own env b) (frb : ∀ b, ow b → C.h₀.get? b = none) (O0 : FrO C σ0 h0 env l) :
    ∀ m k ρ σ s, xs.length - k = m → ok σ → ForR C A env l D P target body ok Q (xs.drop k) ρ σ → St C σ s → Fm C σ s.heap env ρ → EvoF env σ0 h0 σ s.heap → J k s.heap → (∀ b, ow b → σ b = none) →
      codeAny C.M A (.forLoop target it body [] env) (fun r s' => match r with | .ok f => SP C env σ0 h0 Q f s' | .error v => cameBackBy C.M A env (XE C env l σ0 h0 D P) v s') s := by
  intro m
  induction m using Nat.strongRecOn with
  | ind m ih =>
  intro k ρ σ s hm hok tn S F e0 hJ no
  refine codeAny_of_tree ?_
  show wpAny C.M _ ((forTurn target it body [] env).onRaise (fun x => do noteFrame x env; theTreesLotGoes x)) _ _ s
  rw [show A.under (.forLoop target it body [] env) = A from Around.under_of_weight (by rfl)]
  refine wpAny_noted ?_
  unfold forTurn
  refine wpAny_bind (wpAny_standAt (wpAny_bind (wpAny_onRaise ?_)))
  have nt : ∀ b o, ow b → s.heap.get? b = some o → ¬ Imm o := fun b o q => W.notTup k _ b o hJ q
  cases hx : xs[k]? with
  | none =>
    have tn : Q .next ρ σ := by
      rw [List.drop_eq_nil_of_le (List.getElem?_eq_none_iff.mp hx)] at tn; exact tn
    refine W.done k σ s _ _ S hok hJ hx no fun h' tk kp => ?_
    refine wpAny_pure ⟨rfl, codeAny_of_tree ?_⟩
    show wpAny C.M _ (do return Fin.done (← (execs [] env).onRaise (fun x => do noteFrame x env; theTreesLotGoes x))) _ _ _
    refine wpAny_bind (wpAny_noted (wpAny_execs_nil (wpAny_pure ?_)))
    exact ⟨.next, ρ, σ, tn, .next, S.ow kp nt no frb, F.ow kp nt fro, e0.ow kp fr⟩
  | some x =>
    obtain ⟨hk, rfl⟩ := List.getElem?_eq_some_iff.mp hx
    rw [List.drop_eq_getElem_cons hk] at tn
    refine W.more k σ s _ _ _ S hok hJ hx no fun v h' tk rv kp nt' go => ?_
    refine wpAny_bind (go _ _ fun h'' tk' J' kp' => ?_)
    have kp2 : ∀ b o, ¬ ow b → s.heap.get? b = some o → h''.get? b = some o := fun b o q e => kp' b o q (kp b o q e)
    have S2 : St C σ { s with heap := h'', toks := tk' } := S.ow kp2 nt no frb
    have F2 : Fm C σ h'' env ρ := F.ow kp2 nt fro
    have rv2 : VR h'' v xs[k] := rv.mono (tk_ow kp' nt')
    refine wpAny_bind (wpAny_mono (tn { s with heap := h'', toks := tk' } v S2 F2 rv2) ?_ fun _ _ z => z.elim)
    rintro _ s3 ⟨ρ1, σ1, q1, S3, F3, e3⟩
    have e03 : EvoF env σ0 h0 σ1 s3.heap := (e0.ow kp2 fr).trans e3
    refine wpAny_bind (wpAny_mono (q1 s3 S3 F3 (O0.evoF e03)) ?_ ?_)
    · rintro f s4 ⟨g, ρ2, σ2, q2, r2, S4, F4, e4⟩
      have e04 : EvoF env σ0 h0 σ2 s4.heap := e03.trans e4
      have al2 : ∀ b, ow b → ∃ o, h''.get? b = some o := fun b q => W.there _ _ b J' q
      have e24 : EvoF env σ h'' σ2 s4.heap := e3.trans e4
      have kpo : ∀ b o, ow b → h''.get? b = some o → s4.heap.get? b = some o := fun b o q e => (e24.keep b o e (no b q) (fro b q)).exact (W.notD _ _ b o J' q e)
      have no4 : ∀ b, ow b → σ2 b = none := fun b q => by
        cases z : σ2 b with
        | none => rfl
        | some o =>
          rcases e24.dom b o z with ⟨o', e'⟩ | e'
          · rw [no b q] at e'; cases e'
          · obtain ⟨o', e2⟩ := al2 b q
            rw [e2] at e'; cases e'
      cases r2 with
      | next => exact wpAny_pure ⟨rfl, ih (xs.length - (k + 1)) (by (first | lia | omega)) (k + 1) ρ2 σ2 s4 rfl q2.1 q2.2 S4 F4 e04 (W.frame _ _ _ J' e24.tup kpo) no4⟩
      | cont => exact wpAny_pure ⟨rfl, ih (xs.length - (k + 1)) (by (first | lia | omega)) (k + 1) ρ2 σ2 s4 rfl q2.1 q2.2 S4 F4 e04 (W.frame _ _ _ J' e24.tup kpo) no4⟩
      | brk => exact wpAny_pure ⟨.next, ρ2, σ2, q2, .next, S4, F4, e04⟩
      | ret r => exact wpAny_pure ⟨_, ρ2, σ2, q2, .ret r, S4, F4, e04⟩
    · intro v s4 z
      exact (z.after e03).back hfr hf
theorem ExR.for {target iter : Expr} {body : List Stmt} {pos : Pos} (hfr : A.frames = some (env :: l)) (hf : env.frame = some env.locals)
    (h : Src C A env target iter ρ σ (fun xs ok σ1 => ForR C A env l D P target body ok Q xs ρ σ1) (fun _ _ => False))
    (hs : ∀ x, foldedSetIterable iter env x = pure x := by intro _; kernel_rfl) : ExR C A env l D P (.For target iter body [] pos) ρ σ Q := by
  intro s S F O
  refine wpAny_For (wpAny_mono (h s S F) (fun x s1 h1 => wpAny_mono h1 ?_ fun _ _ z => z.elim) fun _ _ z => z.elim) hs
  rintro it s2 ⟨xs, ok, σ', ow, J, q, W, hok, S2, e2, fr, hJ⟩
  refine codeAny_mono (forR_turns (D := D) (P := P) (Q := Q) (σ0 := σ) (h0 := s.heap) (xs := xs) W hfr hf (fun b w => (fr b w).1) (fun b w z => ?_) (fun b w => ?_) O _ 0 ρ σ' s2 rfl hok q S2 (F.evo e2) (e2.evoF F.own) hJ (fun b w => (fr b w).2)) ?_
  · obtain ⟨o, e⟩ := F.own_there z
    rw [(fr b w).1] at e; cases e
  · cases z : C.h₀.get? b with
    | none => rfl
    | some o => have := S.base _ _ z; rw [(fr b w).1] at this; cases this
  · rintro (e | f) s' z
    · exact z
    · exact z
theorem ForR.inv {α : Type} {target : Expr} {body : List Stmt} {ok : Store → Prop} (enc : α → V) (I : List α → Rho → Store → Prop)
    (step : ∀ x xs ρ σ, I (x :: xs) ρ σ → Asg C A env target (enc x) ρ σ (fun ρ1 σ1 => ExsR C A env l D P body ρ1 σ1 (LpQ ok (I xs) Q)) (fun _ _ => False))
    (done : ∀ ρ σ, I [] ρ σ → Q .next ρ σ) : ∀ xs ρ σ, I xs ρ σ → ForR C A env l D P target body ok Q (xs.map enc) ρ σ
  | [], ρ, σ, h => done ρ σ h
  | x :: xs, ρ, σ, h => by
    refine (step x xs ρ σ h).mono fun ρ1 σ1 h1 s S F O => wpAny_mono (h1 s S F O) (fun _ _ z => z.mono fun g ρ2 σ2 h2 => ?_) fun _ _ z => z
    cases g with
    | next => exact ⟨h2.1, ForR.inv enc I step done xs ρ2 σ2 h2.2⟩
    | cont => exact ⟨h2.1, ForR.inv enc I step done xs ρ2 σ2 h2.2⟩
    | brk => exact h2
    | ret v => exact h2
/-- f(args), where the call may raise -/
theorem EvR.call {func : Expr} {args : List Expr} {pos : Pos} {Q : V → Store → Prop} (hf : env.frame = some env.locals)
    (h : Ev C A env func ρ σ (fun fx σ1 => ∃ f, fx = .ref f ∧ keepIn C.K (.ref f) = true ∧ Ags C A env pos args ρ σ1 (fun xs σ2 => CallX C A (env :: l) D P (.ref f) xs σ2 Q) (fun _ _ => False)) (fun _ _ => False))
    (hev : eval (.Call func args [] pos) env = (do callWith pos (← eval func env) [] (backTo pos (starEach args env)) (backToKw pos (keywordEach [] env))) := by kernel_rfl)
    (he : (backTo pos (starEach args env)).any (·.1) = false := by kernel_rfl) : EvR C A env l D P (.Call func args [] pos) ρ σ Q := by
  intro s S F O
  rw [hev]
  refine wpAny_bind (wpAny_mono (h s S F) ?_ fun _ _ z => z.elim)
  rintro v s1 ⟨x, σ1, ⟨f, rfl, kp, q⟩, r1, S1, e1⟩
  cases r1
  refine callWith_of (first := []) (P := fun h => ∀ b o, C.h₀.get? b = some o → h.get? b = some o) (by rw [he]; rfl) (Kp.ref kp) ?_
  refine evalArgs_sp he (wpAny_mono (q s1 S1 (F.evo e1)) ?_ fun _ _ z => z.elim)
  rintro vs s2 ⟨xs, σ2, q2, r2, S2, e2⟩
  have E2 := e1.trans e2
  have F2 := F.evo E2
  have O2 := O.evoF (E2.evoF F.own)
  refine ⟨S2.base, wpAny_mono (q2 s2 _ S2 r2 (F2.frsO hf O2)) (fun _ _ z => (z.after e2).after e1) ?_⟩
  rintro v s3 ⟨σ3, h3, e, B, t, fs, rfl, p, S3, e3, H, cov, hn, up, fl⟩
  exact ⟨σ3, ρ, h3, e, rfl, p, S3, F2.evo e3, O2.evoF (e3.evoF F2.own), (E2.trans e3).evoF F.own, hn, up, .inr ⟨B, t, fs, H, cov, .inr fl⟩⟩
theorem ExR.expr {e : Expr} {pos : Pos} (h : EvR C A env l D P e ρ σ (fun x σ1 => Q .next ρ σ1))
    (hi : interactive env = false := by kernel_rfl) (hs : swapsWith e none pos.line env = pure false := by kernel_rfl) : ExR C A env l D P (.Expr e pos) ρ σ Q := by
  intro s S F O
  refine wpAny_Expr_any (wpAny_mono (h s S F O) ?_ fun _ _ z => z) hi hs
  rintro v s1 ⟨x, σ1, h1, r1, S1, e1⟩
  exact ⟨_, _, _, h1, .next, S1, F.evo e1, e1.evoF F.own⟩
theorem ExR.assign {t value : Expr} {pos : Pos} (h : EvR C A env l D P value ρ σ (fun x σ1 => Asg C A env t x ρ σ1 (fun ρ' σ' => Q .next ρ' σ') (fun _ _ => False)))
    (hs : swapsWithSole [t] value pos.line env = pure false := by kernel_rfl) (hw : swappedStores [t] value env = pure none := by kernel_rfl)
    (ht : (assignEach [t] env).map (·.2) = [assign t env] := by kernel_rfl) : ExR C A env l D P (.Assign [t] value pos) ρ σ Q := by
  intro s S F O
  refine wpAny_Assign_stores (wpAny_mono (h s S F O) ?_ fun _ _ z => z) hs hw
  rintro v s1 ⟨x, σ1, h1, r1, S1, e1⟩
  rw [ht]
  refine wpAny_mono (h1 s1 v S1 (F.evo e1) r1) ?_ fun _ _ z => z.elim
  rintro _ s2 ⟨ρ', σ', q, S2, F2, e2⟩
  exact ⟨_, _, _, q, .next, S2, F2, (e1.evoF F.own).trans e2⟩
end
end Mine

set_option autoImplicit false
set_option linter.unusedVariables false
set_option maxRecDepth 100000
namespace Mine
open PySem PySem.W PySem.SeqAt PyProof.Rows
/-- a code that may raise D -/
def CodX (C : Cx) (A : Around) (l : List Env) (D : Addr) (P : Store → Prop) (f : Value) (args : List V) (σ : Store) (Q : V → Store → Prop) : Prop :=
  ∀ s vs, St C σ s → VRs s.heap vs args → Frs C σ s.heap l → codeAny C.M A (.call f ⟨vs, []⟩) (fun r s' => match r with | .ok (.ret v) => EP C σ s.heap Q v s' | .error v => XF C σ s.heap l D P v s' | _ => False) s
/-- statements that look at the frames and raise nothing -/
def ExsO (C : Cx) (A : Around) (env : Env) (l : List Env) (ss : List Stmt) (ρ : Rho) (σ : Store) (Q : FV → Rho → Store → Prop) : Prop :=
  ∀ s, St C σ s → Fm C σ s.heap env ρ → FrO C σ s.heap env l → wpAny C.M A (execs ss env) (SP C env σ s.heap Q) (fun _ _ => False) s
section
variable {C : Cx} {A : Around} {env : Env} {ρ : Rho} {σ : Store} {X : XP} {s : Shared} {l : List Env} {D : Addr} {P : Store → Prop}
theorem evo_out {s₁ : Shared} {fd : FuncData} {f : Addr} {σ' : Store} {h' : Heap} (keep : ∀ b o, s.heap.get? b = some o → s₁.heap.get? b = some o)
    (hup : ∀ n c, (callEnvC fd s.heap.objs.size f).cells.lookup n = some c → s.heap.objs.size < c) (e : EvoF (callEnvC fd s.heap.objs.size f) σ s₁.heap σ' h') : Evo σ s.heap σ' h' := by
  refine ⟨fun b o hb n => ?_, fun b o hb => ?_, e.mono, fun a o i h => e.tup _ _ i (keep _ _ h)⟩
  · refine e.keep b o (keep b o hb) n ?_
    have hlt := Heap.lt_size hb
    rintro (q | ⟨x, hx⟩)
    · rw [q] at hlt; exact Nat.lt_irrefl _ hlt
    · exact absurd (hup x b hx) (Nat.not_lt.mpr (Nat.le_of_lt hlt))
  · rcases e.dom b o hb with h | h
    · exact .inl h
    · right
      cases q : s.heap.get? b with
      | none => rfl
      | some y => rw [keep b y q] at h; cases h
theorem frO_in {s₁ : Shared} {fd : FuncData} {f : Addr} (keep : ∀ b o, s.heap.get? b = some o → s₁.heap.get? b = some o)
    (hup : ∀ n c, (callEnvC fd s.heap.objs.size f).cells.lookup n = some c → s.heap.objs.size < c) (Fs : Frs C σ s.heap l) : FrO C σ s₁.heap (callEnvC fd s.heap.objs.size f) l := by
  refine ⟨Fs.evo (Evo.ext keep), fun e' he L hf => ?_⟩
  obtain ⟨hk, L', m, hf', hm, hn, hl⟩ := Fs e' he
  rw [hf'] at hf; cases hf
  obtain ⟨o, es, ep, ho, rest⟩ := hm
  have hlt := Heap.lt_size ho
  rintro (q | ⟨x, hx⟩)
  · rw [q] at hlt; exact Nat.lt_irrefl _ hlt
  · exact absurd (hup x _ hx) (Nat.not_lt.mpr (Nat.le_of_lt hlt))
theorem CodX.fn {f : Addr} {o : Obj} {fd : FuncData} {body : List Stmt} {names : List Str} {args : List V} {Q : V → Store → Prop}
    (ho : C.h₀.get? f = some o) (hd : o.data = .func fd) (hlim : C.h₀.NoLimit) (hcd : C.h₀.CodeRec fd.code fd.qualname) (hbody : fd.body = .stmts body)
    (hbind : ∀ vals : List Value, vals.length = args.length → bindArgs fd ⟨vals, []⟩ = pure (names.zip vals)) (hclo : fd.closure = []) (nd : names.Nodup)
    (hkind : ∀ x ∈ names, fd.scope.names.lookup x = some .local ∨ (fd.scope.names.lookup x = some .cell ∧ ∀ L, ((cellsFrom L fd.scope.names []).lookup x).isSome = true))
    (hroom : A.depth < recursionLimit) (hsc : scopeOk fd.scope = true) (hco : fd.scope.isCoroutine = false) (hgen : fd.scope.isGenerator = false) (hk : fd.scope.kind = .function) (hfr : A.frames = some l)
    (h : ∀ L, ExsR C (A.deeper (callEnvC fd L f)) (callEnvC fd L f) l D P body (names.zip args) σ (fun g _ σ' => Q g.val σ')) : CodX C A l D P (.ref f) args σ Q := by
  intro s vs S r Fs
  have hk' : ∀ b o, C.h₀.get? b = some o → s.heap.get? b = some o := S.base
  refine codeAny_call_cells (fd := fd) hroom (hk' _ _ ho) hd (hlim.keeps hk') (hcd.keeps hk') hbody (hbind vs r.length) hclo ?_ (fun s₁ x => ?_) hco hgen hk
  · intro y hy
    rcases hkind y.1 (List.of_mem_zip hy).1 with q | ⟨q, q'⟩
    · exact .inl q
    · exact .inr ⟨q, q' _⟩
  · obtain ⟨S₁, F₁, keep⟩ := S.callee r nd hk hsc x
    have hup : ∀ n c, (callEnvC fd s.heap.objs.size f).cells.lookup n = some c → s.heap.objs.size < c := fun n c hc => x.above n c (mem_of_lookup hc)
    refine wpAny_mono (h s.heap.objs.size s₁ S₁ F₁ (frO_in keep hup Fs)) (fun fl s' z => ?_) (fun v s' z => ?_)
    · have y := EP.ret S keep hup z
      cases fl <;> exact y
    · refine z.leaves (Around.frames_deeper hfr) rfl fun h' σ1 ρ1 h1 e B t fs e0 p S1 F1 e1 H cov hn up fl => ?_
      exact ⟨σ1, h1, e, B, t, fs, e0, p, S1, evo_out keep hup e1, H, cov, hn, up, fl⟩
theorem CodX.call {f : Value} {args : List V} {Q : V → Store → Prop} (h : CodX C A l D P f args σ Q) : CallX C A l D P f args σ Q := by
  intro s vs S r Fs
  refine wpAny_call (codeAny_mono (h s vs S r Fs) ?_)
  rintro (e | f) s' z
  · exact z
  · cases f <;> first | exact z | exact z.elim
theorem CallF.fnO {f : Addr} {o : Obj} {fd : FuncData} {body : List Stmt} {names : List Str} {args : List V} {Q : V → Store → Prop}
    (ho : C.h₀.get? f = some o) (hd : o.data = .func fd) (hlim : C.h₀.NoLimit) (hcd : C.h₀.CodeRec fd.code fd.qualname) (hbody : fd.body = .stmts body)
    (hbind : ∀ vals : List Value, vals.length = args.length → bindArgs fd ⟨vals, []⟩ = pure (names.zip vals)) (hclo : fd.closure = []) (nd : names.Nodup)
    (hkind : ∀ x ∈ names, fd.scope.names.lookup x = some .local ∨ (fd.scope.names.lookup x = some .cell ∧ ∀ L, ((cellsFrom L fd.scope.names []).lookup x).isSome = true))
    (hroom : A.depth < recursionLimit) (hsc : scopeOk fd.scope = true) (hco : fd.scope.isCoroutine = false) (hgen : fd.scope.isGenerator = false) (hk : fd.scope.kind = .function) (hfr : A.frames = some l)
    (h : ∀ L, ExsO C (A.deeper (callEnvC fd L f)) (callEnvC fd L f) l body (names.zip args) σ (fun g _ σ' => Q g.val σ')) : CallF C A l (.ref f) args σ Q X := by
  intro s vs S r Fs
  have hk' : ∀ b o, C.h₀.get? b = some o → s.heap.get? b = some o := S.base
  refine wpAny_call (codeAny_call_cells (fd := fd) hroom (hk' _ _ ho) hd (hlim.keeps hk') (hcd.keeps hk') hbody (hbind vs r.length) hclo ?_ (fun s₁ x => ?_) hco hgen hk)
  · intro y hy
    rcases hkind y.1 (List.of_mem_zip hy).1 with q | ⟨q, q'⟩
    · exact .inl q
    · exact .inr ⟨q, q' _⟩
  · obtain ⟨S₁, F₁, keep⟩ := S.callee r nd hk hsc x
    have hup : ∀ n c, (callEnvC fd s.heap.objs.size f).cells.lookup n = some c → s.heap.objs.size < c := fun n c hc => x.above n c (mem_of_lookup hc)
    refine wpAny_mono (h s.heap.objs.size s₁ S₁ F₁ (frO_in keep hup Fs)) (fun fl s' z => ?_) (fun v s' z => z.elim)
    have y := EP.ret S keep hup z
    cases fl <;> exact y
/-- C(args), where __init__ may raise -/
theorem CallX.cls {c fI : Addr} {args : List V} {Q : V → Store → Prop} (hm : makesIn C.K c = true) (hi : findIn C.K (.ref c) "__init__" = some (some (.ref fI))) (hf : typeIn C.K (.ref fI) = some (.type "function")) (hfr : A.frames = some l)
    (h : ∀ a dx A', σ a = none → σ dx = none → a ≠ dx → A'.handled = A.handled → A'.depth = A.depth + 1 → A'.units ≤ A.units + 2 → A'.frames = some l → CodX C A' l D P (.ref fI) (.ref a :: args) ((σ.upd dx (.sd [])).upd a (.inst c dx)) (fun v σ' => v = .none ∧ Q (.ref a) σ')) :
    CallX C A l D P (.ref c) args σ Q := by
  intro s vs S r Fs
  obtain ⟨hh, g, d, t, os⟩ := s
  refine wpAny_call ?_
  obtain ⟨S2, e2⟩ := S.new (t := t) (x := emptyDict) (o := .sd []) ⟨[], Heap.DictOf.new _, .nil⟩
  have hsz := push_size hh emptyDict
  obtain ⟨S3, e3⟩ := S2.new (t := t) (x := instObj c hh.objs.size) (o := .inst c hh.objs.size) (Heap.get?_push_size _ rfl)
  dsimp only at S3 e3 hsz
  rw [hsz] at S3 e3
  have hne : hh.objs.size + 1 ≠ hh.objs.size := Nat.succ_ne_self _
  have hfs : σ (hh.objs.size + 1) = none := S.fresh' (Nat.le_succ _)
  refine make_core (makes_of S.K hm) (looks_findIn S.K hi) (fun self => bind_fn S.K self hf) (.inl rfl) ?_
  refine codeAny_mono (h (hh.objs.size + 1) hh.objs.size (A.under (.builtin "type.__call__" ⟨.ref c :: vs, []⟩)) hfs S.fresh hne rfl rfl (Nat.add_le_add_left (show (Code.builtin "type.__call__" ⟨.ref c :: vs, []⟩).cUnits ≤ 2 from Nat.le_of_ble_eq_true rfl) _) (by rw [← hfr]; rfl) _ (.ref (hh.objs.size + 1) :: vs) S3 (.cons (.ref _) (r.mono (e2.trans e3).tup)) ((Fs.evo e2).evo e3)) ?_
  rintro (e | f) s' z
  · exact z.after (e2.trans e3)
  · cases f <;> first | exact False.elim z | skip
    obtain ⟨x, σ', ⟨rfl, q⟩, rv, S', e'⟩ := z
    cases rv
    exact ⟨rfl, .ref _, σ', q, .ref _, S', (e2.trans e3).trans e'⟩
/-- try: body, except x as n: suite (which ends by return), rest -/
theorem ExsO.try {body : List Stmt} {tpos hpos np : Pos} {x n : Str} {b₀ : Stmt} {suite rest : List Stmt} {E : Addr} {Q : FV → Rho → Store → Prop}
    (hfr : A.frames = some (env :: l)) (hf : env.frame = some env.locals) (hlo : C.loose)
    (hb : ExsR C A env l D P body ρ σ (fun g ρ1 σ1 => match g with | .next => Exs C A env rest ρ1 σ1 Q (fun _ _ => False) | g => Q g ρ1 σ1))
    (hm : exmOne C.K (.ref D) (.ref E) = some true) (e : nsIn C.K mainGlobals x = some (some (.ref E))) (hx : env.kindOf x = some .globalImplicit) (hg : env.globals = mainGlobals) (hn : env.kindOf n = some .local)
    (hsuite : ∀ (e : Addr) (ρ1 : Rho) (σ1 : Store), P σ1 → σ1 e = none → Exs C (A.mark (some (.ref e))) env (b₀ :: suite) (ρ1.put n (.ref e)) (σ1.upd e (.exc D)) (fun g _ σ' => ∃ v, g = .ret v ∧ ∀ ρ', Q (.ret v) ρ' σ') (fun _ _ => False))
    (hd : (x == ("__debug__" : Str)) = false) (hc : env.cells = []) :
    ExsO C A env l (.Try body [.ExceptHandler (some (.Name x np)) (some n) (b₀ :: suite) hpos] [] [] tpos :: rest) ρ σ Q := by
  intro s S F O
  refine wpAny_execs_cons (wpAny_Try_except (wpAny_mono (hb s S F O) ?_ ?_))
  · rintro f s1 ⟨g, ρ1, σ1, h1, r1, S1, F1, e1⟩
    cases r1 with
    | next =>
      refine wpAny_execs_nil ?_
      exact wpAny_mono (h1 s1 S1 F1) (fun _ _ z => z.after e1) fun _ _ z => z
    | brk => exact ⟨_, _, _, h1, .brk, S1, F1, e1⟩
    | cont => exact ⟨_, _, _, h1, .cont, S1, F1, e1⟩
    | ret r => exact ⟨_, _, _, h1, .ret r, S1, F1, e1⟩
  · intro v s1 z
    refine z.note hfr hf fun h4 σ1 ρ1 h1 e B t fs e0 p S1 F1 O1 e1 H cov hnew up held4 => ?_
    subst e0
    refine wpAny_landsW held4 fun h5 fly5 up5 => ?_
    have U5 : h1.UpToSlots h5 := up.trans up5
    obtain ⟨S5, E5⟩ := settle S1 H cov fly5.1 U5 s1.toks
    obtain ⟨ob, hob, hobc⟩ := fly5.there
    refine wpAny_handleBy_cons (codeAny_handlers_test (Calls.Name_function_global F1.fn hx (Calls.loadGlobal_global (mg := C.mg) (by rw [hg]; exact C.hg.keeps S5.base) (mg_of C.KX C.hg ‹_›) ?_) hd)) (by intro q; cases q)
    have LT : Looks C.M h5 (typeOf (.ref e)) (.ref D) := hobc ▸ (Looks.ld hob).andThen .now
    refine (exm_one (M := C.M) (K := C.K) (h := h5) S5.K LT hm).here ?_
    refine codeAny_handlers_suite_as ?_
    refine lands_againW fly5 fun h6 fly6 up6 => ?_
    obtain ⟨S6, E6⟩ := settle S1 H cov fly6.1 (U5.trans up6) s1.toks
    obtain ⟨oe, ws, hoe, hoec, hoed, _⟩ := fly6.first
    have hC0 : C.h₀.get? e = none := by
      cases q : C.h₀.get? e with
      | none => rfl
      | some o => have := S1.base _ _ q; rw [hnew] at this; cases this
    have hs0 : σ1 e = none := by
      cases q : σ1 e with
      | none => rfl
      | some o =>
        obtain ⟨y, hy, _⟩ := (S1.rep _ _ q).isSome
        rw [hnew] at hy; cases hy
    obtain ⟨S7, E7⟩ := S6.adoptX (a := e) (o := .exc D) ⟨oe, ws, hoe, hoec, hoed⟩ hC0 hlo E6 hnew
    have F7 : Fm C (σ1.upd e (.exc D)) h6 env ρ1 := F1.evo E7
    obtain ⟨m, hm7, fm⟩ := F7.loc
    refine wpAny_storeName_local hn hm7 (fun h8 hn8 hs8 => ?_) (by rw [F.fn]; rfl)
    obtain ⟨S8, F8, E8⟩ := Fm.storeLocal (h := h6) (t := s1.toks + 1) (s := { s1 with heap := h6 }) S7 F7 hn hm7 fm hn8 hs8 (.ref e) (by rw [hc]; rfl)
    refine wpAny_mono (hsuite e ρ1 σ1 p hs0 _ S8 F8) ?_ fun _ _ z => z.elim
    rintro f s9 ⟨g, ρ9, σ9, ⟨v, rfl, q9⟩, r9, S9, F9, E9⟩
    obtain ⟨m9, hm9, fm9⟩ := F9.loc
    refine wpAny_nameGoes hn hm9 (by rw [F.fn]; rfl) fun h10 m10 hn10 hs10 => ?_
    cases r9 with
    | ret r9 =>
    obtain ⟨o9, es9, ep9, ho9, hd9, _⟩ := hm9
    have tk : TupKeep s9.heap h10 := fun a o i q => (hs10.2 a fun z => by subst z; rw [ho9] at q; cases q; exact Imm.notDict hd9 i).trans q
    have hne : ∀ b, b ≠ env.locals → h10.get? b = s9.heap.get? b := fun b q => hs10.2 b q
    have S10 : St C σ9 { s9 with heap := h10, toks := s9.toks + 1 } := by
      refine ⟨fun b o q => (hne b fun z => ?_).trans (S9.base b o q), fun a o q => (S9.rep a o q).at (fun y hy => (hne a fun z => ?_).trans hy) tk, S9.above, S9.gens, S9.os⟩
      · have := C.low b o q; rw [z] at this; exact absurd this (Nat.not_lt.mpr F9.abv)
      · subst z; rw [F9.locs] at q; cases q
    refine ⟨.ret v, [], σ9, q9 [], .ret (r9.mono tk), S10, ⟨F9.fn, ⟨m10, hn10, fun y u _ hu => (nomatch hu)⟩, F9.locs, F9.abv, fun y c hy => ?_, fun y c hy => ?_, F9.apart⟩, ?_⟩
    · rw [hc] at hy; cases hy
    · rw [hc] at hy; cases hy
    · have E10 : EvoF env σ9 s9.heap σ9 h10 := by
        refine ⟨fun b o q n w => .inl ((hne b fun z => w (.inl z)).trans q), fun b o q => .inl ⟨o, q⟩, fun b o q => ⟨o, q⟩, tk, fun b o q w => ?_⟩
        rcases w with rfl | ⟨y, w⟩
        · obtain ⟨o', _, _, ho', _⟩ := hn10
          exact ⟨o', ho'⟩
        · rw [hc] at w; cases w
      exact ((e1.trans (E7.evoF F1.own)).trans E8).trans (E9.trans E10)
end
end Mine

set_option autoImplicit false
set_option linter.unusedVariables false
set_option maxRecDepth 100000
namespace Mine
open PySem PySem.W PySem.SeqAt PyProof.Rows
section
variable {C : Cx} {A : Around} {env : Env} {ρ : Rho} {σ : Store} {X : XP} {s : Shared} {l : List Env} {D : Addr} {P : Store → Prop}
/-- a def that may raise -/
theorem CodX.defK {f : Addr} {name qual : Str} {params : Arguments} {body : List Stmt} {scope : Scope} {dV kV doc pm cdv ct oc : Value} {an od : Option Addr} {osl : Array (Option Value)} (names : List Str) {args : List V} {Q : V → Store → Prop}
    (ho : C.K.lookup f = some ⟨oc, od, .func (fnOf name qual params body scope dV kV doc pm an cdv ct), osl⟩) (hcd : codeIn C.K cdv qual = true) (hroom : A.depth < recursionLimit)
    (hbind : ∀ vals : List Value, vals.length = args.length → bindArgs (fnOf name qual params body scope dV kV doc pm an cdv ct) ⟨vals, []⟩ = pure (names.zip vals)) (nd : names.Nodup)
    (hkind : (names.all fun y => scope.names.lookup y == some .local) = true) (hsc : scopeOk scope = true) (hco : scope.isCoroutine = false) (hgen : scope.isGenerator = false) (hk : scope.kind = .function) (hfr : A.frames = some l)
    (h : ∀ L A', A'.handled = A.handled → A'.depth = A.depth + 1 → A'.units = A.units + 3 → A'.frames = some (mkE scope L (cellsFrom (L + 1) scope.names []) (qual ++ ".<locals>.") (some f) cdv (some L) :: l) →
      ExsR C A' (mkE scope L (cellsFrom (L + 1) scope.names []) (qual ++ ".<locals>.") (some f) cdv (some L)) l D P body (names.zip args) σ (fun g _ σ' => Q g.val σ')) : CodX C A l D P (.ref f) args σ Q :=
  CodX.fn (names := names) (C.KX _ _ ho) rfl C.lim (codeRec_of C.KX hcd) rfl hbind rfl nd (fun x hx => .inl (by simpa using List.all_eq_true.mp hkind x hx)) hroom hsc hco hgen hk hfr (fun L => h L _ rfl rfl rfl (Around.frames_deeper hfr))
/-- a def that looks at the frames -/
theorem CallF.defK {f : Addr} {name qual : Str} {params : Arguments} {body : List Stmt} {scope : Scope} {dV kV doc pm cdv ct oc : Value} {an od : Option Addr} {osl : Array (Option Value)} (names : List Str) {args : List V} {Q : V → Store → Prop}
    (ho : C.K.lookup f = some ⟨oc, od, .func (fnOf name qual params body scope dV kV doc pm an cdv ct), osl⟩) (hcd : codeIn C.K cdv qual = true) (hroom : A.depth < recursionLimit)
    (hbind : ∀ vals : List Value, vals.length = args.length → bindArgs (fnOf name qual params body scope dV kV doc pm an cdv ct) ⟨vals, []⟩ = pure (names.zip vals)) (nd : names.Nodup)
    (hkind : (names.all fun y => scope.names.lookup y == some .local) = true) (hsc : scopeOk scope = true) (hco : scope.isCoroutine = false) (hgen : scope.isGenerator = false) (hk : scope.kind = .function) (hfr : A.frames = some l)
    (h : ∀ L A', A'.handled = A.handled → A'.depth = A.depth + 1 → A'.units = A.units + 3 → A'.frames = some (mkE scope L (cellsFrom (L + 1) scope.names []) (qual ++ ".<locals>.") (some f) cdv (some L) :: l) →
      ExsO C A' (mkE scope L (cellsFrom (L + 1) scope.names []) (qual ++ ".<locals>.") (some f) cdv (some L)) l body (names.zip args) σ (fun g _ σ' => Q g.val σ')) : CallF C A l (.ref f) args σ Q X :=
  CallF.fnO (names := names) (C.KX _ _ ho) rfl C.lim (codeRec_of C.KX hcd) rfl hbind rfl nd (fun x hx => .inl (by simpa using List.all_eq_true.mp hkind x hx)) hroom hsc hco hgen hk hfr (fun L => h L _ rfl rfl rfl (Around.frames_deeper hfr))
/-- the law's def -/
theorem CallWP.def1O (x1 : Str) {f : Addr} {name qual : Str} {params : Arguments} {body : List Stmt} {scope : Scope} {dV kV doc pm cdv ct oc : Value} {an od : Option Addr} {osl : Array (Option Value)} {v1 : V} {Q : V → Store → Prop}
    (ho : C.K.lookup f = some ⟨oc, od, .func (fnOf name qual params body scope dV kV doc pm an cdv ct), osl⟩) (hcd : codeIn C.K cdv qual = true) (hroom : A.depth < recursionLimit)
    (hbind : ∀ u1 : Value, bindArgs (fnOf name qual params body scope dV kV doc pm an cdv ct) ⟨[u1], []⟩ = pure [(x1, u1)]) (nd : ([x1] : List Str).Nodup)
    (hkind : (([x1] : List Str).all fun y => scope.names.lookup y == some .local || scope.names.lookup y == some .cell) = true) (hsc : scopeOk scope = true) (hco : scope.isCoroutine = false) (hgen : scope.isGenerator = false) (hk : scope.kind = .function) (hfr : A.frames = some [])
    (h : ∀ L A', A'.handled = A.handled → A'.depth = A.depth + 1 → A'.units = A.units + 3 → A'.frames = some [mkE scope L (cellsFrom (L + 1) scope.names []) (qual ++ ".<locals>.") (some f) cdv (some L)] → Exs C A' (mkE scope L (cellsFrom (L + 1) scope.names []) (qual ++ ".<locals>.") (some f) cdv (some L)) body [(x1, v1)] σ (fun g _ σ' => Q g.val σ') (fun _ _ => False)) :
    CallWP C A (.ref f) [v1] σ Q X :=
  CallWP.def1F x1 ho hcd hroom hbind nd hkind hsc hco hgen hk fun L A' a1 a2 a3 a4 => h L A' a1 a2 a3 (by rw [a4, hfr]; rfl)
end
theorem tail_ghost {h : Heap} {tabs : List (Addr × Addr)} (hT : TabsAt tabs h) {bmB tl : List Value} (T : OwnTail h bmB tl) : OwnTail (ghostOf h tabs) bmB tl := by
  induction T with
  | base => exact .base
  | own hA hN hq _ ih => exact .own (ghost_get hT hA (fun q => by have := congrArg Obj.data q; cases this)) (ghost_ns hT hN) hq ih
theorem own_ghost {h : Heap} {tabs : List (Addr × Addr)} (hT : TabsAt tabs h) {x : Str} {D : Addr} {bm : List Value} {newId : String} {mg : Str → Option Value} (O : OwnCls x D bm newId mg h) : OwnCls x D bm newId mg (ghostOf h tabs) := by
  obtain ⟨bm', N, nm, q, bs, hdct, sn, sub, ab, col, dd, k0, k1, k2, k3, k5, mN, hC, hN, hni, T⟩ := O.obj
  exact ⟨O.bound, bm', N, nm, q, bs, hdct, sn, sub, ab, col, dd, k0, k1, k2, k3, k5, mN, ghost_get hT hC (fun q => by have := congrArg Obj.data q; cases this), ghost_ns hT hN, hni, tail_ghost hT T⟩
/-- the law's call with one table of codes laid aside, where the text may raise -/
theorem glueTX {prog : Program} {w : World} {s₁ : Shared} {K : Frag} {p : Program} {loose : List Str} {mean : ExcName → Option Value} {mg mb : Str → Option Value} {l fa c P : Addr} {pos : Pos} {q : Str} {vs : List Value} {ns : List Int} (KX : K.In s₁.heap) (T : Top p loose mean mg mb s₁.heap)
    (hT : CodeHd s₁.heap c P) (hP : s₁.heap.get? P = some (tabObj #[])) (hK : noTabs K = true) (hPs : P ≠ sysModules) (hsys : ∃ o, s₁.heap.get? sysModules = some o) (gens : s₁.gens = #[]) (hl : s₁.heap.IsList l vs.toArray) (hI : IntsAre vs ns)
    (h : ∀ C : Cx, C.prog = prog → C.w = w → C.K = K → C.loose → (∀ (x : Str) (D : Addr) (bm : List Value) (nid : String), OwnCls x D bm nid mg s₁.heap → OwnCls x D bm nid C.mg C.h₀) → SysOk C → BaseL C l (ns.map V.int) → CodeHd C.h₀ c P → (∃ bm ob, C.mg "__builtins__" = some (.ref bm) ∧ bm ≠ builtinsNs ∧ C.h₀.get? bm = some ob ∧ ob.cls = .type "module" ∧ ob.dict = some builtinsNs ∧ ob.data = .plain) →
      CallWP C callerA (.ref fa) [.ref l] (Store.upd (fun _ => none) P (.tab pos q)) (fun v σ' => v = .bool true ∧ ∃ o, σ' P = some o ∧ ∃ pos' q', o = .tab pos' q') (fun _ _ => False)) :
    wpAny (model prog w) callerA (call (.ref fa) [.ref l]) (fun v s' => v = .bool true ∧ OldK s₁.heap s'.heap ∧ s'.os = s₁.os ∧ AllBare s'.gens) (fun _ _ => False) s₁ := by
  have hTs : TabsAt [(c, P)] s₁.heap := fun z hz => by
    rcases List.mem_cons.mp hz with rfl | hz
    · exact ⟨hT, hP⟩
    · cases hz
  have hgo := ghost_top hTs T
  obtain ⟨n, hn1, hn2⟩ := top_exists (ghostOf s₁.heap [(c, P)]) (ghostOf s₁.heap [(c, P)]).objs.size fun b o e => Heap.lt_size e
  obtain ⟨os, hos⟩ := hsys
  have hPn : (ghostOf s₁.heap [(c, P)]).get? P = none := hideAll_none _ (by simp)
  have := h ⟨prog, w, ghostOf s₁.heap [(c, P)], s₁.gens, s₁.os, n, hn1, hn2, K, ghost_K hTs KX hK, mg, mb, hgo.g, hgo.b, hgo.builtins, hgo.nolimit, [P], True⟩ rfl rfl rfl trivial (fun _ _ _ _ O => own_ghost hTs O) (.inr ⟨os, ghost_ne hos (by simpa using Ne.symm hPs)⟩) ⟨vs.toArray, ghost_list hTs hl, by simpa using ints_VRs hI⟩ (ghost_code hTs).1 hgo.bmain s₁ [.ref l]
    ⟨fun _ _ e => of_hideAll _ e, fun a o e => ?_, fun a o e => ?_, rfl, rfl⟩ (.cons (.ref _) .nil)
  · refine wpAny_mono this ?_ fun _ _ z => z
    rintro v s' ⟨x, σ', ⟨rfl, o, e1, pos', q', rfl⟩, r, S, e⟩
    cases r
    have keep : ∀ b o, b ≠ P → s₁.heap.get? b = some o → s'.heap.get? b = some o := fun b o hb e => S.base b o (ghost_ne e (by simpa using hb))
    obtain ⟨ps, hps⟩ : ∃ ps, s'.heap.get? P = some (tabObj ps) := by
      rcases S.rep _ _ e1 with z | ⟨_, _, _, _, z, _⟩
      · exact ⟨_, z⟩
      · exact ⟨_, z⟩
    refine ⟨rfl, ⟨fun b o eb => ?_, fun b o eb => ?_⟩, S.os, .of_eq (S.gens.trans gens)⟩
    · by_cases hb : b = P
      · subst hb
        rw [hP] at eb; cases eb
        exact .inr (.inl ⟨(hT.tab hP).isCodeTable, rfl, #[], ps, rfl, by rw [Array.empty_append]; exact hps⟩)
      · exact .inl (keep b o hb eb)
    · by_cases hb : b = P
      · subst hb; exact ⟨_, hps⟩
      · exact ⟨o, keep b o hb eb⟩
  · by_cases z : a = P
    · subst z
      rw [Store.upd_self] at e; cases e
      exact .inl hP
    · rw [Store.upd_ne _ _ z] at e; cases e
  · by_cases z : a = P
    · subst z; exact ⟨hPn, .inr (.inl (by simp))⟩
    · rw [Store.upd_ne _ _ z] at e; cases e
end Mine

set_option autoImplicit false
set_option linter.unusedVariables false
namespace Mine
open PySem PySem.W PySem.SeqAt PyProof.Rows
section
variable {C : Cx} {A : Around} {env : Env} {ρ : Rho} {σ : Store} {X : XP} {s : Shared}
theorem VRs.insert {h : Heap} {y : Value} {x : V} (a : VR h y x) : ∀ (k : Nat) {vs : List Value} {xs : List V}, VRs h vs xs → VRs h (vs.take k ++ y :: vs.drop k) (xs.take k ++ x :: xs.drop k) := by
  intro k
  induction k with
  | zero => intro vs xs r; exact .cons a r
  | succ k ih =>
    intro vs xs r
    cases r with
    | nil => exact .cons a .nil
    | cons b r => exact .cons b (ih r)
/-- l.insert(k, x) -/
theorem CallWP.insert {l : Addr} {xs : List V} {x : V} {k : Int} {Q : V → Store → Prop} (hl : σ l = some (.list xs)) (h0 : 0 ≤ k) (hk : k.toNat ≤ xs.length) (hz : xs.length ≤ 9000) (h : Q .none (σ.upd l (.list (xs.take k.toNat ++ x :: xs.drop k.toNat)))) : CallWP C A (.builtin "list.insert") [.ref l, .int k, x] σ Q X := by
  rintro s vs S (_ | ⟨r1, _ | ⟨r2, _ | ⟨r3, ⟨⟩⟩⟩⟩)
  cases r1
  cases r2
  rename_i u t
  obtain ⟨items, ⟨n, e⟩, rl⟩ := S.rep _ _ hl
  have el := rl.length
  simp only [Array.length_toList] at el
  have hfit : Builtin.List.listFitsIndex k = true := by
    unfold Builtin.List.listFitsIndex
    simp; (first | lia | omega)
  have hk2 : k.toNat ≤ items.size := by (first | lia | omega)
  refine call_meets PySem.F.slot_list_insert ⟨_, e, rfl⟩ PySem.F.entry_list_insert (PySem.F.args_list_insert_3 _ _ _) (PySem.AutoSeq1.list_insert_list_int_val_1 l items n k t u (by rw [hfit]; exact Bool.false_ne_true) (by rw [sizeLine_eq]; (first | lia | omega))) ⟨e, ?_⟩
  obtain ⟨S2, e2⟩ := upd_list (ys := xs.take k.toNat ++ x :: xs.drop k.toNat) (f := fun xs => have k' := if k < 0 then (k + (xs.size : Int)).toNat else min k.toNat xs.size; (xs.extract 0 k').push u ++ xs.extract k') S hl e (by
    have hk' : (if k < 0 then (k + (items.size : Int)).toNat else min k.toNat items.size) = k.toNat := by
      rw [if_neg (by (first | lia | omega))]; exact Nat.min_eq_left hk2
    show VRs s.heap (((items.extract 0 (if k < 0 then (k + (items.size : Int)).toNat else min k.toNat items.size)).push u ++ items.extract (if k < 0 then (k + (items.size : Int)).toNat else min k.toNat items.size)).toList) _
    rw [hk']
    generalize k.toNat = m at *
    have e3 : ((items.extract 0 m).push u ++ items.extract m).toList = items.toList.take m ++ u :: items.toList.drop m := by
      rw [Array.toList_append, Array.toList_push, Array.toList_extract, Array.toList_extract]
      simp only [List.extract]
      rw [List.drop_zero, Nat.sub_zero, List.take_of_length_le (i := items.size - m) (by rw [List.length_drop, Array.length_toList]; (first | lia | omega)), List.append_assoc]
      rfl
    rw [e3]
    exact rl.insert r3 m)
  exact ⟨.none, _, h, .none, S2, e2⟩
def isStrB (x : Str) : Value → Bool
  | .str z _ => z == x
  | _ => false
/-- ns.index(x) -/
theorem CallWP.indexStr {l : Addr} {ns : List Str} {x : Str} {Q : V → Store → Prop} (hl : σ l = some (.list (ns.map V.str))) (hx : x ∈ ns) (hok : ∀ n ∈ ns, PyData.strOk n = true) (hu : A.units < 9000) (hz : ns.length ≤ 9000) (h : Q (.int ((ns.idxOf x : Nat) : Int)) σ) : CallWP C A (.builtin "list.index") [.ref l, .str x] σ Q X := by
  rintro s vs S (_ | ⟨r1, _ | ⟨r2, ⟨⟩⟩⟩)
  cases r1
  cases r2
  rename_i t
  obtain ⟨items, ⟨n, e⟩, rl⟩ := S.rep _ _ hl
  have el := rl.length
  simp only [Array.length_toList, List.length_map] at el
  have hj := List.idxOf_lt_length_of_mem hx
  have at_ : ∀ m (hm : m < items.size), ∃ t', items[m] = .str (ns[m]'(by (first | lia | omega))) t' := fun m hm => by
    obtain ⟨u, hu', ru⟩ := rl.get (show (ns.map V.str)[m]? = some (V.str (ns[m]'(by (first | lia | omega)))) by rw [List.getElem?_map, List.getElem?_eq_getElem (by (first | lia | omega))]; rfl)
    have : items[m] = u := by
      have : items.toList[m]? = some items[m] := by simp [hm]
      rw [this] at hu'; exact Option.some.inj hu'
    rw [this]
    cases ru
    exact ⟨_, rfl⟩
  refine call_meets PySem.F.slot_list_index ⟨_, e, rfl⟩ PySem.F.entry_list_index (PySem.F.args_list_index_2 _ _) (list_indexAt l items n none #[] (.str x t) (isStrB x) (ns.idxOf x) (by (first | lia | omega)) (by (first | lia | omega)) ?_ ?_) ⟨e, fun y hy => ?_, ?_⟩
  · obtain ⟨t', e1⟩ := at_ (ns.idxOf x) (by (first | lia | omega))
    rw [e1]
    simp [isStrB, List.getElem_idxOf hj]
  · intro m hm hlt
    obtain ⟨t', e1⟩ := at_ m hm
    rw [e1]
    have := List.not_of_lt_findIdx (p := (· == x)) hlt
    simpa [isStrB] using this
  · obtain ⟨m, hm, rfl⟩ := Array.mem_iff_getElem.mp hy
    obtain ⟨t', e1⟩ := at_ m hm
    rw [e1]
    intro prog w E Q hq
    have hmok := hok _ (List.getElem_mem (show m < ns.length by (first | lia | omega)))
    refine eqBoolOverData prog w _ E s _ _ _ _ _ _ Q (.str _ _) (.str _ _) (by simpa [PyData.canLay0] using hmok) (by simpa [PyData.canLay0] using hok x hx) ?_ ?_
    · show A.units + 1 + _ < _
      simp only [PyData.depth, cLine]; (first | lia | omega)
    · simpa [PyData.eqv, isStrB] using hq
  · exact EP.pureT S h (.int _ _)
theorem VRs.ints {h : Heap} : ∀ {ns : List Int} {vs : List Value}, VRs h vs (ns.map V.int) → IntsAre vs ns := by
  intro ns
  induction ns with
  | nil => intro vs r; cases r; exact .nil
  | cons n ns ih =>
    intro vs r
    cases r with
    | cons a r => cases a; exact .cons _ _ (ih r)
/-- max of a list of whole numbers -/
theorem CallWP.maxInts {l : Addr} {ns : List Int} {Q : V → Store → Prop} (hh : A.handled = none) (hl : σ l = some (.list (ns.map V.int))) (hne : ns ≠ []) (h : ∀ M, M ∈ ns → (∀ a ∈ ns, a ≤ M) → Q (.int M) σ) : CallWP C A (.builtin "max") [.ref l] σ Q X := by
  intro s vs S r
  obtain ⟨_, rfl, r1⟩ := r.one
  obtain rfl := r1.refI
  obtain ⟨items, hI, rl⟩ := (show LstAt C σ l (ns.map V.int) from .inl hl).raw S
  have hi : IntsAre items.toList ns := rl.ints
  obtain ⟨xs, e⟩ := hi.allInts.items
  have hns : ns = xs.toList.map (·.1) := by rw [← hi.numsOf, ← nums_intItems, ← e]
  have hsz : 0 < xs.size := by
    have h3 := List.length_pos_iff.mpr hne
    rw [hns, List.length_map, Array.length_toList] at h3; exact h3
  have hI' : s.heap.IsList l (intItems xs) := by rw [← e]; simpa using hI
  refine max_intList hh hI' hsz fun v h' tk hv hk => ?_
  obtain ⟨t, rfl⟩ := intItems_at hv
  obtain ⟨h1, h2⟩ := argBest_gt (numAt xs) (xs.size - 1)
  refine ⟨_, σ, h _ ?_ fun a ha => ?_, .int _ _, S.ext hk, .ext hk⟩
  · rw [hns, numAt_eq]; exact getD_mem (by rw [List.length_map, Array.length_toList]; (first | lia | omega))
  · rw [hns] at ha
    obtain ⟨j, hj, rfl⟩ := mem_getD ha
    rw [List.length_map, Array.length_toList] at hj
    rw [← numAt_eq]; exact h2 j (by (first | lia | omega))
end
end Mine

set_option autoImplicit false
set_option linter.unusedVariables false
namespace Mine
open PySem PySem.W PySem.SeqAt PyProof.Rows PySem.Calls
theorem str_eq_dict (b : Str) (u : Tok) (l : Addr) (c : Value) (es : Array DictEntry) (n : Nat) (dd : Option Addr) (sl : Array (Option Value)) :
    Meets (Builtin.«str.__eq__» ⟨[.str b u, .ref l], []⟩) (fun _ R s => s.heap.get? l = some { cls := c, dict := dd, data := .dict es n, slots := sl } ∧ R (.ok (.ret .notImplemented)) s) :=
  .of_wp fun prog w A R s h => by obtain ⟨hp, g, d, tk, os⟩ := s; obtain ⟨hl, h⟩ := h; wp_walk using wpAny_loadPart' hl, wpAny_load hl; exact ⟨_, rfl, h⟩
theorem dict_eq_str (b : Str) (u : Tok) (l : Addr) (es : Array DictEntry) (n : Nat) (dd : Option Addr) (sl : Array (Option Value)) :
    Meets (Builtin.«dict.__eq__» ⟨[.ref l, .str b u], []⟩) (fun _ R s => s.heap.get? l = some { cls := .type "dict", dict := dd, data := .dict es n, slots := sl } ∧ R (.ok (.ret .notImplemented)) s) :=
  .of_wp fun prog w A R s h => by obtain ⟨hp, g, d, tk, os⟩ := s; obtain ⟨hl, h⟩ := h; have f1 := F.sub_str_dict; wp_walk using wpAny_loadPart' hl, wpAny_load hl; exact ⟨_, rfl, h⟩
section
variable {A : Around} {s : Shared}
theorem eqAt_str_dict {l : Addr} {es : Array DictEntry} {n : Nat} {dd : Option Addr} {sl : Array (Option Value)} (b : Str) (u : Tok) (ho : s.heap.get? l = some { cls := .type "dict", dict := dd, data := .dict es n, slots := sl }) (hu : A.units < cLine) : EqAt A s (.str b u) (.ref l) false := fun prog w E Q h => by
  unfold eqBool
  refine wpAny_holding ?_
  refine wpAny_ite_split (fun hab => absurd (eq_of_beq hab) nofun) (fun _ => ?_)
  refine wpAny_bind ?_
  exact rc_eq_decline_or (k := false) (typeIs_str s b u) ⟨_, ho, rfl⟩ (by decide) F.sub_dict_str F.slot_str_eq F.slot_dict_eq_refl
    (fun _ hq => call_meets F.slot_str_eq (typeIs_str s b u) F.entry_str_eq (F.args_str_eq_2 _ _) (str_eq_dict b u l (.type "dict") es n dd sl) ⟨ho, hq⟩)
    (fun _ hq => call_meets F.slot_dict_eq_refl ⟨_, ho, rfl⟩ F.entry_dict_eq (F.args_dict_eq_2 _ _) (dict_eq_str b u l es n dd sl) ⟨ho, hq⟩)
    (fun _ hq => wpAny_of_eq (rfl : isSame (.str b u) (.ref l) = pure false) hq) (.inr hu) (wpAny_truthy_bool h)
end
section
variable {C : Cx} {A : Around} {σ : Store} {X : XP}
/-- how a text and a value compare -/
def EqS (C : Cx) (A : Around) (σ : Store) (n : Str) (x : V) (b : Bool) : Prop := ∀ s t u, St C σ s → VR s.heap u x → EqAt A.in1 s (.str n t) u b
theorem EqS.none {n : Str} : EqS C A σ n .none false := by
  intro s t u S r
  cases r
  exact EqAt.str_none n t
theorem EqS.int {n : Str} {i : Int} : EqS C A σ n (.int i) false := by
  intro s t u S r
  cases r
  exact EqAt.str_int n t _ _
theorem EqS.list {n : Str} {l : Addr} {xs : List V} (hu : A.units < 9000) (hl : σ l = some (.list xs)) : EqS C A σ n (.ref l) false := by
  intro s t u S r
  cases r
  obtain ⟨items, hI, _⟩ := (show LstAt C σ l xs from .inl hl).raw S
  exact EqAt.str_list n t hI (by show A.units + 1 < _; simp only [cLine]; (first | lia | omega))
theorem EqS.dict {n : Str} {l : Addr} {es : List (Str × V)} (hu : A.units < 9000) (hl : σ l = some (.sd es)) : EqS C A σ n (.ref l) false := by
  intro s t u S r
  cases r
  obtain ⟨kvs, ⟨⟨cls, dd, data, sl⟩, es', ep, ho, hx, hd, _⟩, _⟩ := S.rep _ _ hl
  have hc : cls = .type "dict" := hx.1
  simp only at hd
  subst hc hd
  exact eqAt_str_dict n t ho (by show A.units + 1 < _; simp only [cLine]; (first | lia | omega))
theorem EqS.tup {n : Str} {xs : List V} (hu : A.units < 9000) : EqS C A σ n (.tup xs) false := by
  intro s t u S r
  cases r with
  | tup e r =>
    exact EqAt.str_tuple n t ⟨_, e, rfl, _, rfl⟩ (by show A.units + 1 < _; simp only [cLine]; (first | lia | omega))
/-- what is no text does not stand among names -/
theorem CmpWP.notInOdd {l : Addr} {ns : List Str} {x : V} {Q : V → Store → Prop} (hl : σ l = some (.list (ns.map V.str))) (he : ∀ n, EqS C A σ n x false) (h : Q (.bool true) σ) : CmpWP C A .NotIn x (.ref l) σ Q X := by
  intro s a b S ra rb
  obtain rfl := rb.refI
  obtain ⟨items, hI, rl⟩ := (show LstAt C σ l (ns.map V.str) from .inl hl).raw S
  refine notIn_listAt (fun _ => false) hI (fun y hy => ?_) ?_
  · obtain ⟨m, hm, rfl⟩ := Array.mem_iff_getElem.mp hy
    have el := rl.length
    simp only [Array.length_toList, List.length_map] at el
    obtain ⟨u, hu', ru⟩ := rl.get (show (ns.map V.str)[m]? = some (V.str (ns[m]'(by (first | lia | omega)))) by rw [List.getElem?_map, List.getElem?_eq_getElem (by (first | lia | omega))]; rfl)
    have : items[m] = u := by
      have : items.toList[m]? = some items[m] := by simp [hm]
      rw [this] at hu'; exact Option.some.inj hu'
    rw [this]
    cases ru
    exact he _ s _ _ S ra
  · have e2 : (!items.any fun _ => false) = true := by simp
    first
      | exact EP.pure S h (.bool _)
      | (rw [e2]; exact EP.pure S h (.bool _))
      | (simp; exact EP.pure S h (.bool _))
/-- a value equals itself -/
def EqI (C : Cx) (A : Around) (σ : Store) (x : V) : Prop := ∀ s v u, St C σ s → VR s.heap v x → VR s.heap u x → EqAt A.in1 s v u true
theorem EqI.ref {l : Addr} : EqI C A σ (.ref l) := by
  intro s v u S r1 r2
  cases r1; cases r2
  exact EqAt.same _
theorem EqI.dr {x : V} {d : PyData} (hx : DR C σ x d) (h1 : d.canLay0 = true) (hu : A.units + d.depth < 9000) : EqI C A σ x := by
  intro s v u S r1 r2
  obtain ⟨as, q1⟩ := hx.reads S r1
  obtain ⟨bs, q2⟩ := hx.reads S r2
  intro prog w E Q hq
  refine eqBoolOverData prog w _ E s _ _ _ _ _ _ Q q1 q2 h1 h1 ?_ ?_
  · show A.units + 1 + _ < _
    simp only [cLine]; (first | lia | omega)
  · rw [eqv_refl d h1]; exact hq
/-- two lists of the same values -/
theorem CmpWP.eqSelf {l m : Addr} {xs : List V} {Q : V → Store → Prop} (h1 : σ l = some (.list xs)) (h2 : σ m = some (.list xs)) (he : ∀ x ∈ xs, EqI C A σ x) (hu : A.units < 9000) (h : Q (.bool true) σ) : CmpWP C A .Eq (.ref l) (.ref m) σ Q X := by
  intro s a b S ra rb
  obtain rfl := ra.refI
  obtain rfl := rb.refI
  obtain ⟨items, hI, rl⟩ := (show LstAt C σ l xs from .inl h1).raw S
  obtain ⟨items2, hI2, rl2⟩ := (show LstAt C σ m xs from .inl h2).raw S
  have el := rl.length
  have el2 := rl2.length
  simp only [Array.length_toList] at el el2
  refine eq_listAt (e := fun _ => true) hI hI2 (by (first | lia | omega)) (by simp only [cLine]; (first | lia | omega)) (fun j j1 j2 => ?_) ?_
  · have hj : xs[j]? = some (xs[j]'(by (first | lia | omega))) := List.getElem?_eq_getElem (by (first | lia | omega))
    obtain ⟨u, hu1, ru⟩ := rl.get hj
    obtain ⟨v, hv1, rv⟩ := rl2.get hj
    have e1 : items[j] = u := by
      have : items.toList[j]? = some items[j] := by simp [j1]
      rw [this] at hu1; exact Option.some.inj hu1
    have e2 : items2[j] = v := by
      have : items2.toList[j]? = some items2[j] := by simp [j2]
      rw [this] at hv1; exact Option.some.inj hv1
    rw [e1, e2]
    exact he _ (List.getElem_mem (by (first | lia | omega))) s _ _ S ru rv
  · have e3 : ((List.range items.size).all (fun _ => true)) = true := by simp
    rw [e3]
    exact EP.pure S h (.bool _)
end
end Mine

set_option autoImplicit false
set_option linter.unusedVariables false
namespace Mine
open PySem PySem.W PySem.SeqAt PyProof.Rows PySem.Calls
section
variable {C : Cx} {A : Around} {env : Env} {ρ : Rho} {σ : Store} {X : XP} {s : Shared}
end
end Mine

set_option autoImplicit false
set_option linter.unusedVariables false
namespace Mine
open PySem PySem.W PySem.SeqAt PyProof.Rows PySem.Calls
section
variable {prog : Program} {w : World} {A : Around} {E : Value → Shared → Prop} {s : Shared}
end
section
variable {C : Cx} {A : Around} {env : Env} {ρ : Rho} {σ : Store} {X : XP} {s : Shared}
/-- where t[:k] ends -/
def uptoT (k : Int) (n : Nat) : Nat := (if k < 0 then k + n else k).toNat
end
end Mine

set_option autoImplicit false
namespace Mine
open PySem PySem.W PySem.Calls PyProof.Rows

section
variable {tb : String → Option Builtin} {p : Program} {w : World} {n₀ : Nat} {ann : Option Value}
theorem through_of_end {t : Thread} {f : Flow} (h : endAt 0 t = some f) : through t = true := by
  obtain ⟨cur, code, pos, st⟩ := t
  cases st with
  | cons a b => simp [endAt] at h
  | nil =>
    cases cur with
    | pure x => cases x with
      | done g => rfl
      | again c => simp [endAt] at h
    | _ => simp [endAt] at h
theorem through_of_none {t : Thread} (h : endAt 0 t = none) : through t = false := by
  obtain ⟨cur, code, pos, st⟩ := t
  cases st with
  | cons a b => rfl
  | nil =>
    cases cur with
    | pure x => cases x with
      | done g => simp [endAt] at h
      | again c => rfl
    | _ => rfl
theorem topRun_of_seg : ∀ {n : Nat} {s s' : Shared} {t : Thread} {f : Flow} {c : Code} {q : Pos}, segRun tb p w n₀ ann 0 n s t = some (f, s', c, q) → topRun tb p w n₀ ann n s t = some s'
  | 0, _, _, _, _, _, _, h => by cases h
  | n + 1, s, s', t, f, c, q, h => by
    unfold segRun at h
    unfold topRun
    cases he : endAt 0 t with
    | some x => rw [he] at h; cases h; rw [through_of_end he]
    | none =>
      rw [he] at h
      rw [through_of_none he]
      cases hk : stepOk n₀ ann t with
      | false => rw [hk] at h; cases h
      | true =>
        rw [hk] at h
        cases hs : step (denote tb) p w s t with
        | halt o s₂ => rw [hs] at h; cases h
        | go s₂ t₂ => rw [hs] at h; exact topRun_of_seg h
end

/-- what is looked at behind the top -/
def looksAt {α : Type} (p q : Program) (loose : List Str) (Xt : Shared → Bool) (Yf : Shared → α) (g0 : Bool) (H₀ : Heap) (s : Shared) :=
  ((staticsOk (importedModules p.main.body) H₀ s.heap && namesBound p s.heap && gensDone s && laidKept H₀ s.heap), openSeen q loose (importedModules p.main.body) Xt g0 s, Yf s)

/-- the head by one run over a tree of objects -/
theorem left_of_run {p q : Program} {loose : List Str} {Xt : Shared → Bool} {α : Type} {Yf : Shared → α} {Ya : World → α} {N : Nat} {g0 : Bool} {T₀ : Params → BT} {n₀ : Nat} {life : Life} {ann : Option Value} {d₀ : Drawn} {k₀ : Nat} {M : Nat} {H₀ : Params → Heap}
    (open_ : ∀ w : World, (fencedOpening treeTable p w N).map (fun s => (s.heap, s.gens, s.drawn, s.toks)) = some (H₀ w.params, Array.mk [], d₀, k₀))
    (tree : ∀ P, absHeap (T₀ P) n₀ life = H₀ P)
    (size : ∀ w : World, ((H₀ w.params).isNs mainGlobals, (H₀ w.params).nsMap mainGlobals "__annotations__") = (true, ann))
    (le : Nat.ble M N = true)
    (run : ∀ w : World, (fun os => (segRunT treeTable p w n₀ ann 0 M ⟨T₀ w.params, n₀, life, Array.mk [], d₀, k₀, os⟩ (topStub p)).map fun r => looksAt p q loose Xt Yf g0 (H₀ w.params) r.2.1.abs) = fun _ => some (true, openGood q loose, Ya w)) :
    LeftO p q loose Xt Yf Ya N g0 := fun w => by
  obtain ⟨⟨h, gs, d, k, os⟩, e, e'⟩ := Option.map_eq_some_iff.mp (open_ w)
  obtain ⟨rfl, rfl, rfl, rfl⟩ : h = H₀ w.params ∧ gs = Array.mk [] ∧ d = d₀ ∧ k = k₀ := by simpa using e'
  obtain ⟨z1, z3⟩ : _ ∧ _ := by simpa only [Prod.mk.injEq] using size w
  obtain ⟨⟨f, sT, c, pos⟩, r1, r2⟩ := Option.map_eq_some_iff.mp (congrFun (run w) os)
  obtain ⟨l1, l2, l3⟩ : _ ∧ _ ∧ _ := by simpa only [looksAt, Prod.mk.injEq] using r2
  have r0 := topRun_of_seg (segRun_of r1)
  have r := topRun_mono (N - M) _ _ _ _ r0
  rw [show M + (N - M) = N by have := Nat.le_of_ble_eq_true le; omega] at r
  have hz : (H₀ w.params).objs.size = n₀ := by rw [← tree, absHeap_size]
  have ea : (SharedT.mk (T₀ w.params) n₀ life (Array.mk []) d k os).abs = ⟨H₀ w.params, Array.mk [], d, k, os⟩ := by
    show Shared.mk (absHeap (T₀ w.params) n₀ life) _ _ _ _ = _
    rw [tree]
  rw [ea] at r
  have t : topFrom treeTable p w N ⟨H₀ w.params, Array.mk [], d, k, os⟩ = some sT.abs := by
    unfold topFrom
    dsimp only
    rw [z1, hz, z3, r]
    show (match staticsOk (importedModules p.main.body) (H₀ w.params) sT.abs.heap && namesBound p sT.abs.heap && gensDone sT.abs && laidKept (H₀ w.params) sT.abs.heap with | true => some sT.abs | false => none) = _
    rw [l1]
  unfold openEnds
  rw [e]
  show (topFrom treeTable p w N _).map _ = _
  rw [t]
  exact congrArg some (Prod.ext l2 l3)
end Mine

set_option autoImplicit false
namespace Mine
open PySem PySem.W PySem.Calls PyProof.Rows

/- the written part: objects by projection out of the program -/
def nth : List Stmt → Nat → Stmt
  | [], _ => .Pass ⟨0, 0, 0, 0⟩
  | a :: _, 0 => a
  | _ :: l, n + 1 => nth l n
def clsBody : Stmt → List Stmt
  | .ClassDef _ _ _ b _ _ _ _ _ _ _ => b
  | _ => []
def fnO (s : Stmt) (q : Str) (m : Value) (c : Addr) : Obj := match s with
  | .FunctionDef n a b _ _ _ sc _ _ _ => ⟨.type "function", none, .func { name := n, qualname := q, params := a, body := .stmts b, scope := sc, globals := 3, closure := [], defaults := .none, kwdefaults := .none, pyModule := m, code := .ref c }, #[]⟩
  | _ => default
def defRec : Stmt → DefRec
  | .FunctionDef n a b _ _ _ sc _ _ pos => ⟨n, a, b, sc, pos⟩
  | _ => ⟨Str.empty, ⟨[], [], none, [], [], none, []⟩, [], ⟨.module, [], false, false, []⟩, ⟨0, 0, 0, 0⟩⟩
abbrev sv (s : String) (t : Nat) : Value := .str (Str.ofString s) t
abbrev rv (a : Nat) : Value := .ref a
abbrev nv (i : Int) (t : Nat) : Value := .int i t
abbrev de (P : Params) (s : String) (t : Nat) (v : Value) : DictEntry := ⟨PyData.keyHash P (Str.ofString s), .str (Str.ofString s) t, v⟩
abbrev dictO (es : List DictEntry) (n : Nat) : Obj := ⟨.type "dict", none, .dict es.toArray n, #[]⟩
abbrev codeO (vs : List Value) : Obj := ⟨.type "code", none, .fields vs.toArray, #[]⟩

/- the tree of the objects that stand ahead of the text -/
def mkT (l : List Obj) : BT := (l.foldl (fun (t, i) o => (BT.ins t i o, i + 1)) (BT.nil, 0)).1
noncomputable def T0 (P : Params) : BT := mkT (boot_heap P).objs.toList
theorem T0_abs (P : Params) : absHeap (T0 P) 11 {} = boot_heap P := by kernel_rfl
theorem boot_size : ∀ w : World, ((boot_heap w.params).isNs mainGlobals, (boot_heap w.params).nsMap mainGlobals "__annotations__") = (true, some (.ref 6)) := fun w => by kernel_rfl
end Mine

namespace Mine
open PySem PySem.W PySem.Calls PyProof.Rows
set_option Elab.async false
set_option maxRecDepth 1000000
set_option maxHeartbeats 0
noncomputable def keepL : List Nat := [1, 2, 3, 4, 5, 6, 8, 9, 10, 11, 12, 14, 15, 16, 17, 18, 19, 20, 21, 22, 24, 26, 27, 29, 30, 31, 32, 33, 34, 35, 36, 37]
noncomputable def KL : Params → Frag := fun P =>
  (nat_lit 2, ⟨.none, none, .dict [].toArray 0, #[]⟩) ::
  (nat_lit 3, (dictO [de P "__name__" 165 (sv "law_uf030038_05" 610), de P "__doc__" 166 .none, de P "__package__" 167 .none, de P "__loader__" 168 (.builtin "__main__.__loader__#opaque"), de P "__spec__" 169 .none, de P "__annotations__" 170 (rv 6), de P "__builtins__" 171 (rv 4), de P "__file__" 173 (sv "/claim/cut.py" 172), de P "__cached__" 174 .none, de P "LoomError" 206 (rv 24), de P "NoWord" 222 (rv 37), de P "NoHandler" 238 (rv 49), de P "Twice" 254 (rv 61), de P "Stranger" 270 (rv 73), de P "NoCount" 286 (rv 85), de P "SIGNS" 290 (sv "abcdefghijklmnopqrstuvwxyz" 289), de P "MOST_SIGNS" 292 (nv (12) 291), de P "is_whole" 299 (rv 94), de P "is_word" 305 (rv 99), de P "need_word" 312 (rv 106), de P "MOST_HANDLERS" 316 (nv (40) 315), de P "MOST_DEEDS" 318 (nv (30) 317), de P "MOST_TICKS" 320 (nv (1000000000) 319), de P "WITH_A_WORD" 326 (rv 107), de P "is_deed" 333 (rv 114), de P "is_handler" 339 (rv 119), de P "need_handlers" 351 (rv 126), de P "need_names" 357 (rv 131), de P "hearers" 363 (rv 136), de P "Waits" 431 (rv 184), de P "Frame" 465 (rv 205), de P "Loom" 609 (rv 313), de P "_law_told_at" 619 (rv 324), de P "_law_name_by" 630 (rv 331), de P "_law_kind" 638 (rv 338), de P "_law_refused" 648 (rv 345), de P "_law_near" 658 (rv 352), de P "_law_due" 667 (rv 359), de P "_law_fresh" 675 (rv 366), de P "_law_goes_on" 681 (rv 371), de P "law" 687 (rv 376)] 41)) ::
  (nat_lit 23, (dictO [de P "__module__" 196 (sv "eventloom.errors" 187), de P "__firstlineno__" 200 (nv (2) 199), de P "__static_attributes__" 201 (rv 22), de P "__weakref__" 203 (rv 25), de P "__doc__" 204 .none] 3)) ::
  (nat_lit 24, ⟨.type "type", none, .cls { name := Str.ofString "LoomError", bases := [(.type "ValueError")], mro := [(rv 24), (.type "ValueError"), (.type "Exception"), (.type "BaseException"), (.type "object")], ns := 23, qualname := Str.ofString "LoomError", hasDict := true, slotNames := [], subclasses := [(rv 37), (rv 49), (rv 61), (rv 73), (rv 85)], abstract := false, collection := none, hasDel := false }, [some (rv 15), none, some (sv "LoomError" 189), some (sv "LoomError" 197), some (.builtin "ValueError.__new__"), some (.bool true)].toArray⟩) ::
  (nat_lit 25, ⟨(.type "getset_descriptor"), none, .fields [(sv "__weakref__" 202), (rv 24), (.builtin "ExceptionGroup.__weakref__"), .none].toArray, #[]⟩) ::
  (nat_lit 36, (dictO [de P "__module__" 214 (sv "eventloom.errors" 187), de P "__firstlineno__" 218 (nv (4) 217), de P "__static_attributes__" 219 (rv 35), de P "__doc__" 220 .none] 2)) ::
  (nat_lit 37, ⟨.type "type", none, .cls { name := Str.ofString "NoWord", bases := [(rv 24)], mro := [(rv 37), (rv 24), (.type "ValueError"), (.type "Exception"), (.type "BaseException"), (.type "object")], ns := 36, qualname := Str.ofString "NoWord", hasDict := true, slotNames := [], subclasses := [], abstract := false, collection := none, hasDel := false }, [some (rv 28), none, some (sv "NoWord" 207), some (sv "NoWord" 215), some (.builtin "ValueError.__new__"), some (.bool true)].toArray⟩) ::
  (nat_lit 48, (dictO [de P "__module__" 230 (sv "eventloom.errors" 187), de P "__firstlineno__" 234 (nv (6) 233), de P "__static_attributes__" 235 (rv 47), de P "__doc__" 236 .none] 2)) ::
  (nat_lit 49, ⟨.type "type", none, .cls { name := Str.ofString "NoHandler", bases := [(rv 24)], mro := [(rv 49), (rv 24), (.type "ValueError"), (.type "Exception"), (.type "BaseException"), (.type "object")], ns := 48, qualname := Str.ofString "NoHandler", hasDict := true, slotNames := [], subclasses := [], abstract := false, collection := none, hasDel := false }, [some (rv 40), none, some (sv "NoHandler" 223), some (sv "NoHandler" 231), some (.builtin "ValueError.__new__"), some (.bool true)].toArray⟩) ::
  (nat_lit 60, (dictO [de P "__module__" 246 (sv "eventloom.errors" 187), de P "__firstlineno__" 250 (nv (8) 249), de P "__static_attributes__" 251 (rv 59), de P "__doc__" 252 .none] 2)) ::
  (nat_lit 61, ⟨.type "type", none, .cls { name := Str.ofString "Twice", bases := [(rv 24)], mro := [(rv 61), (rv 24), (.type "ValueError"), (.type "Exception"), (.type "BaseException"), (.type "object")], ns := 60, qualname := Str.ofString "Twice", hasDict := true, slotNames := [], subclasses := [], abstract := false, collection := none, hasDel := false }, [some (rv 52), none, some (sv "Twice" 239), some (sv "Twice" 247), some (.builtin "ValueError.__new__"), some (.bool true)].toArray⟩) ::
  (nat_lit 72, (dictO [de P "__module__" 262 (sv "eventloom.errors" 187), de P "__firstlineno__" 266 (nv (10) 265), de P "__static_attributes__" 267 (rv 71), de P "__doc__" 268 .none] 2)) ::
  (nat_lit 73, ⟨.type "type", none, .cls { name := Str.ofString "Stranger", bases := [(rv 24)], mro := [(rv 73), (rv 24), (.type "ValueError"), (.type "Exception"), (.type "BaseException"), (.type "object")], ns := 72, qualname := Str.ofString "Stranger", hasDict := true, slotNames := [], subclasses := [], abstract := false, collection := none, hasDel := false }, [some (rv 64), none, some (sv "Stranger" 255), some (sv "Stranger" 263), some (.builtin "ValueError.__new__"), some (.bool true)].toArray⟩) ::
  (nat_lit 84, (dictO [de P "__module__" 278 (sv "eventloom.errors" 187), de P "__firstlineno__" 282 (nv (12) 281), de P "__static_attributes__" 283 (rv 83), de P "__doc__" 284 .none] 2)) ::
  (nat_lit 85, ⟨.type "type", none, .cls { name := Str.ofString "NoCount", bases := [(rv 24)], mro := [(rv 85), (rv 24), (.type "ValueError"), (.type "Exception"), (.type "BaseException"), (.type "object")], ns := 84, qualname := Str.ofString "NoCount", hasDict := true, slotNames := [], subclasses := [], abstract := false, collection := none, hasDel := false }, [some (rv 76), none, some (sv "NoCount" 271), some (sv "NoCount" 279), some (.builtin "ValueError.__new__"), some (.bool true)].toArray⟩) ::
  (nat_lit 93, (codeO [(sv "is_whole" 293), (sv "is_whole" 294), (sv "/claim/cut.py" 295), (nv (17) 0), (nv (1) 0), (nv (0) 0), (nv (0) 0), (nv (3) 0), (rv 88), (.bool true), (nv (181) 0), (rv 89), .none, (rv 90), (rv 91), (rv 92), (nv (297) 0), (nv (17) 0), (sv "/claim/cut.py" 298)])) ::
  (nat_lit 94, (fnO (nth PySem.Challenge.pw_uf030038_05.main.body 10) (Str.ofString "is_whole") (sv "eventloom.words" 287) 93)) ::
  (nat_lit 98, (codeO [(sv "is_word" 300), (sv "is_word" 301), (sv "/claim/cut.py" 302), (nv (19) 0), (nv (1) 0), (nv (0) 0), (nv (0) 0), (nv (3) 0), (rv 95), (.bool true), (nv (181) 0), (rv 96), .none, .none, .none, (rv 97), (nv (303) 0), (nv (19) 0), (sv "/claim/cut.py" 304)])) ::
  (nat_lit 99, (fnO (nth PySem.Challenge.pw_uf030038_05.main.body 11) (Str.ofString "is_word") (sv "eventloom.words" 287) 98)) ::
  (nat_lit 105, (codeO [(sv "need_word" 306), (sv "need_word" 307), (sv "/claim/cut.py" 308), (nv (23) 0), (nv (1) 0), (nv (0) 0), (nv (0) 0), (nv (3) 0), (rv 100), (.bool true), (nv (181) 0), (rv 101), .none, (rv 102), (rv 103), (rv 104), (nv (310) 0), (nv (23) 0), (sv "/claim/cut.py" 311)])) ::
  (nat_lit 106, (fnO (nth PySem.Challenge.pw_uf030038_05.main.body 12) (Str.ofString "need_word") (sv "eventloom.words" 287) 105)) ::
  (nat_lit 107, ⟨(.type "tuple"), none, .seq [(sv "now" 321), (sv "soon" 322), (sv "cancel" 323), (sv "join" 324), (sv "leave" 325)].toArray 0, #[]⟩) ::
  (nat_lit 113, (codeO [(sv "is_deed" 327), (sv "is_deed" 328), (sv "/claim/cut.py" 329), (nv (32) 0), (nv (1) 0), (nv (0) 0), (nv (0) 0), (nv (3) 0), (rv 108), (.bool true), (nv (181) 0), (rv 109), .none, (rv 110), (rv 111), (rv 112), (nv (331) 0), (nv (32) 0), (sv "/claim/cut.py" 332)])) ::
  (nat_lit 114, (fnO (nth PySem.Challenge.pw_uf030038_05.main.body 18) (Str.ofString "is_deed") (sv "eventloom.handlers" 313) 113)) ::
  (nat_lit 118, (codeO [(sv "is_handler" 334), (sv "is_handler" 335), (sv "/claim/cut.py" 336), (nv (42) 0), (nv (1) 0), (nv (0) 0), (nv (0) 0), (nv (3) 0), (rv 115), (.bool true), (nv (181) 0), (rv 116), .none, .none, .none, (rv 117), (nv (337) 0), (nv (42) 0), (sv "/claim/cut.py" 338)])) ::
  (nat_lit 119, (fnO (nth PySem.Challenge.pw_uf030038_05.main.body 19) (Str.ofString "is_handler") (sv "eventloom.handlers" 313) 118)) ::
  (nat_lit 125, (codeO [(sv "need_handlers" 340), (sv "need_handlers" 341), (sv "/claim/cut.py" 342), (nv (52) 0), (nv (1) 0), (nv (0) 0), (nv (0) 0), (nv (3) 0), (rv 120), (.bool true), (nv (181) 0), (rv 121), .none, (rv 122), (rv 123), (rv 124), (nv (349) 0), (nv (52) 0), (sv "/claim/cut.py" 350)])) ::
  (nat_lit 126, (fnO (nth PySem.Challenge.pw_uf030038_05.main.body 20) (Str.ofString "need_handlers") (sv "eventloom.handlers" 313) 125)) ::
  (nat_lit 130, (codeO [(sv "need_names" 352), (sv "need_names" 353), (sv "/claim/cut.py" 354), (nv (67) 0), (nv (2) 0), (nv (0) 0), (nv (0) 0), (nv (3) 0), (rv 127), (.bool true), (nv (181) 0), (rv 128), .none, .none, .none, (rv 129), (nv (355) 0), (nv (67) 0), (sv "/claim/cut.py" 356)])) ::
  (nat_lit 131, (fnO (nth PySem.Challenge.pw_uf030038_05.main.body 21) (Str.ofString "need_names") (sv "eventloom.handlers" 313) 130)) ::
  (nat_lit 135, (codeO [(sv "hearers" 358), (sv "hearers" 359), (sv "/claim/cut.py" 360), (nv (77) 0), (nv (3) 0), (nv (0) 0), (nv (0) 0), (nv (3) 0), (rv 132), (.bool true), (nv (181) 0), (rv 133), .none, .none, .none, (rv 134), (nv (361) 0), (nv (77) 0), (sv "/claim/cut.py" 362)])) ::
  (nat_lit 136, (fnO (nth PySem.Challenge.pw_uf030038_05.main.body 22) (Str.ofString "hearers") (sv "eventloom.handlers" 313) 135)) ::
  (nat_lit 149, (codeO [(sv "__init__" 378), (sv "Waits.__init__" 379), (sv "/claim/cut.py" 380), (nv (86) 0), (nv (1) 0), (nv (0) 0), (nv (0) 0), (nv (3) 0), (rv 144), (.bool true), (nv (181) 0), (rv 145), .none, (rv 146), (rv 147), (rv 148), (nv (382) 0), (nv (86) 0), (sv "/claim/cut.py" 383)])) ::
  (nat_lit 150, (fnO (nth (clsBody (nth PySem.Challenge.pw_uf030038_05.main.body 24)) 0) (Str.ofString "Waits.__init__") (sv "eventloom.waits" 364) 149)) ::
  (nat_lit 156, (codeO [(sv "sooner" 385), (sv "Waits.sooner" 386), (sv "/claim/cut.py" 387), (nv (90) 0), (nv (2) 0), (nv (0) 0), (nv (0) 0), (nv (3) 0), (rv 151), (.bool true), (nv (181) 0), (rv 152), .none, (rv 153), (rv 154), (rv 155), (nv (390) 0), (nv (90) 0), (sv "/claim/cut.py" 391)])) ::
  (nat_lit 157, (fnO (nth (clsBody (nth PySem.Challenge.pw_uf030038_05.main.body 24)) 1) (Str.ofString "Waits.sooner") (sv "eventloom.waits" 364) 156)) ::
  (nat_lit 163, (codeO [(sv "later" 393), (sv "Waits.later" 394), (sv "/claim/cut.py" 395), (nv (93) 0), (nv (3) 0), (nv (0) 0), (nv (0) 0), (nv (3) 0), (rv 158), (.bool true), (nv (181) 0), (rv 159), .none, (rv 160), (rv 161), (rv 162), (nv (399) 0), (nv (93) 0), (sv "/claim/cut.py" 400)])) ::
  (nat_lit 164, (fnO (nth (clsBody (nth PySem.Challenge.pw_uf030038_05.main.body 24)) 2) (Str.ofString "Waits.later") (sv "eventloom.waits" 364) 163)) ::
  (nat_lit 168, (codeO [(sv "lineup" 402), (sv "Waits.lineup" 403), (sv "/claim/cut.py" 404), (nv (96) 0), (nv (1) 0), (nv (0) 0), (nv (0) 0), (nv (3) 0), (rv 165), (.bool true), (nv (181) 0), (rv 166), .none, .none, .none, (rv 167), (nv (405) 0), (nv (96) 0), (sv "/claim/cut.py" 406)])) ::
  (nat_lit 169, (fnO (nth (clsBody (nth PySem.Challenge.pw_uf030038_05.main.body 24)) 3) (Str.ofString "Waits.lineup") (sv "eventloom.waits" 364) 168)) ::
  (nat_lit 175, (codeO [(sv "lead" 408), (sv "Waits.lead" 409), (sv "/claim/cut.py" 410), (nv (99) 0), (nv (1) 0), (nv (0) 0), (nv (0) 0), (nv (3) 0), (rv 170), (.bool true), (nv (181) 0), (rv 171), .none, (rv 172), (rv 173), (rv 174), (nv (413) 0), (nv (99) 0), (sv "/claim/cut.py" 414)])) ::
  (nat_lit 176, (fnO (nth (clsBody (nth PySem.Challenge.pw_uf030038_05.main.body 24)) 4) (Str.ofString "Waits.lead") (sv "eventloom.waits" 364) 175)) ::
  (nat_lit 180, (codeO [(sv "drop" 416), (sv "Waits.drop" 417), (sv "/claim/cut.py" 418), (nv (108) 0), (nv (2) 0), (nv (0) 0), (nv (0) 0), (nv (3) 0), (rv 177), (.bool true), (nv (181) 0), (rv 178), .none, .none, .none, (rv 179), (nv (419) 0), (nv (108) 0), (sv "/claim/cut.py" 420)])) ::
  (nat_lit 181, (fnO (nth (clsBody (nth PySem.Challenge.pw_uf030038_05.main.body 24)) 5) (Str.ofString "Waits.drop") (sv "eventloom.waits" 364) 180)) ::
  (nat_lit 183, (dictO [de P "__module__" 373 (sv "eventloom.waits" 364), de P "__firstlineno__" 377 (nv (84) 376), de P "__init__" 384 (rv 150), de P "sooner" 392 (rv 157), de P "later" 401 (rv 164), de P "lineup" 407 (rv 169), de P "lead" 415 (rv 176), de P "drop" 421 (rv 181), de P "__static_attributes__" 424 (rv 182), de P "__dict__" 426 (rv 185), de P "__weakref__" 428 (rv 186), de P "__doc__" 429 .none] 4)) ::
  (nat_lit 184, ⟨.type "type", none, .cls { name := Str.ofString "Waits", bases := [(.type "object")], mro := [(rv 184), (.type "object")], ns := 183, qualname := Str.ofString "Waits", hasDict := true, slotNames := [], subclasses := [], abstract := false, collection := none, hasDel := false }, [none, none, some (sv "Waits" 366), some (sv "Waits" 374), some (.builtin "object.__new__"), some (.bool true)].toArray⟩) ::
  (nat_lit 185, ⟨(.type "getset_descriptor"), none, .fields [(sv "__dict__" 425), (rv 184), (.builtin "function.__dict__"), (.builtin "function.__dict__#set")].toArray, #[]⟩) ::
  (nat_lit 186, ⟨(.type "getset_descriptor"), none, .fields [(sv "__weakref__" 427), (rv 184), (.builtin "ExceptionGroup.__weakref__"), .none].toArray, #[]⟩) ::
  (nat_lit 201, (codeO [(sv "__init__" 446), (sv "Frame.__init__" 447), (sv "/claim/cut.py" 448), (nv (114) 0), (nv (3) 0), (nv (0) 0), (nv (0) 0), (nv (3) 0), (rv 196), (.bool true), (nv (181) 0), (rv 197), .none, (rv 198), (rv 199), (rv 200), (nv (452) 0), (nv (114) 0), (sv "/claim/cut.py" 453)])) ::
  (nat_lit 202, (fnO (nth (clsBody (nth PySem.Challenge.pw_uf030038_05.main.body 26)) 0) (Str.ofString "Frame.__init__") (sv "eventloom.loom" 432) 201)) ::
  (nat_lit 204, (dictO [de P "__module__" 441 (sv "eventloom.loom" 432), de P "__firstlineno__" 445 (nv (112) 444), de P "__init__" 454 (rv 202), de P "__static_attributes__" 458 (rv 203), de P "__dict__" 460 (rv 206), de P "__weakref__" 462 (rv 207), de P "__doc__" 463 .none] 4)) ::
  (nat_lit 205, ⟨.type "type", none, .cls { name := Str.ofString "Frame", bases := [(.type "object")], mro := [(rv 205), (.type "object")], ns := 204, qualname := Str.ofString "Frame", hasDict := true, slotNames := [], subclasses := [], abstract := false, collection := none, hasDel := false }, [none, none, some (sv "Frame" 434), some (sv "Frame" 442), some (.builtin "object.__new__"), some (.bool true)].toArray⟩) ::
  (nat_lit 206, ⟨(.type "getset_descriptor"), none, .fields [(sv "__dict__" 459), (rv 205), (.builtin "function.__dict__"), (.builtin "function.__dict__#set")].toArray, #[]⟩) ::
  (nat_lit 207, ⟨(.type "getset_descriptor"), none, .fields [(sv "__weakref__" 461), (rv 205), (.builtin "ExceptionGroup.__weakref__"), .none].toArray, #[]⟩) ::
  (nat_lit 222, (codeO [(sv "__init__" 478), (sv "Loom.__init__" 479), (sv "/claim/cut.py" 480), (nv (120) 0), (nv (3) 0), (nv (0) 0), (nv (0) 0), (nv (3) 0), (rv 217), (.bool true), (nv (181) 0), (rv 218), .none, (rv 219), (rv 220), (rv 221), (nv (484) 0), (nv (120) 0), (sv "/claim/cut.py" 485)])) ::
  (nat_lit 223, (fnO (nth (clsBody (nth PySem.Challenge.pw_uf030038_05.main.body 27)) 0) (Str.ofString "Loom.__init__") (sv "eventloom.loom" 432) 222)) ::
  (nat_lit 229, (codeO [(sv "send" 487), (sv "Loom.send" 488), (sv "/claim/cut.py" 489), (nv (130) 0), (nv (2) 0), (nv (0) 0), (nv (0) 0), (nv (3) 0), (rv 224), (.bool true), (nv (181) 0), (rv 225), .none, (rv 226), (rv 227), (rv 228), (nv (493) 0), (nv (130) 0), (sv "/claim/cut.py" 494)])) ::
  (nat_lit 230, (fnO (nth (clsBody (nth PySem.Challenge.pw_uf030038_05.main.body 27)) 1) (Str.ofString "Loom.send") (sv "eventloom.loom" 432) 229)) ::
  (nat_lit 236, (codeO [(sv "step" 496), (sv "Loom.step" 497), (sv "/claim/cut.py" 498), (nv (137) 0), (nv (1) 0), (nv (0) 0), (nv (0) 0), (nv (3) 0), (rv 231), (.bool true), (nv (181) 0), (rv 232), .none, (rv 233), (rv 234), (rv 235), (nv (502) 0), (nv (137) 0), (sv "/claim/cut.py" 503)])) ::
  (nat_lit 237, (fnO (nth (clsBody (nth PySem.Challenge.pw_uf030038_05.main.body 27)) 2) (Str.ofString "Loom.step") (sv "eventloom.loom" 432) 236)) ::
  (nat_lit 243, (codeO [(sv "begin" 505), (sv "Loom.begin" 506), (sv "/claim/cut.py" 507), (nv (154) 0), (nv (2) 0), (nv (0) 0), (nv (0) 0), (nv (3) 0), (rv 238), (.bool true), (nv (181) 0), (rv 239), .none, (rv 240), (rv 241), (rv 242), (nv (511) 0), (nv (154) 0), (sv "/claim/cut.py" 512)])) ::
  (nat_lit 244, (fnO (nth (clsBody (nth PySem.Challenge.pw_uf030038_05.main.body 27)) 3) (Str.ofString "Loom.begin") (sv "eventloom.loom" 432) 243)) ::
  (nat_lit 250, (codeO [(sv "go_on" 514), (sv "Loom.go_on" 515), (sv "/claim/cut.py" 516), (nv (159) 0), (nv (2) 0), (nv (0) 0), (nv (0) 0), (nv (3) 0), (rv 245), (.bool true), (nv (181) 0), (rv 246), .none, (rv 247), (rv 248), (rv 249), (nv (519) 0), (nv (159) 0), (sv "/claim/cut.py" 520)])) ::
  (nat_lit 251, (fnO (nth (clsBody (nth PySem.Challenge.pw_uf030038_05.main.body 27)) 4) (Str.ofString "Loom.go_on") (sv "eventloom.loom" 432) 250)) ::
  (nat_lit 257, (codeO [(sv "call_in" 522), (sv "Loom.call_in" 523), (sv "/claim/cut.py" 524), (nv (168) 0), (nv (3) 0), (nv (0) 0), (nv (0) 0), (nv (3) 0), (rv 252), (.bool true), (nv (181) 0), (rv 253), .none, (rv 254), (rv 255), (rv 256), (nv (529) 0), (nv (168) 0), (sv "/claim/cut.py" 530)])) ::
  (nat_lit 258, (fnO (nth (clsBody (nth PySem.Challenge.pw_uf030038_05.main.body 27)) 5) (Str.ofString "Loom.call_in") (sv "eventloom.loom" 432) 257)) ::
  (nat_lit 264, (codeO [(sv "send_away" 532), (sv "Loom.send_away" 533), (sv "/claim/cut.py" 534), (nv (176) 0), (nv (2) 0), (nv (0) 0), (nv (0) 0), (nv (3) 0), (rv 259), (.bool true), (nv (181) 0), (rv 260), .none, (rv 261), (rv 262), (rv 263), (nv (538) 0), (nv (176) 0), (sv "/claim/cut.py" 539)])) ::
  (nat_lit 265, (fnO (nth (clsBody (nth PySem.Challenge.pw_uf030038_05.main.body 27)) 6) (Str.ofString "Loom.send_away") (sv "eventloom.loom" 432) 264)) ::
  (nat_lit 269, (codeO [(sv "do_deed" 541), (sv "Loom.do_deed" 542), (sv "/claim/cut.py" 543), (nv (183) 0), (nv (3) 0), (nv (0) 0), (nv (0) 0), (nv (3) 0), (rv 266), (.bool true), (nv (181) 0), (rv 267), .none, .none, .none, (rv 268), (nv (544) 0), (nv (183) 0), (sv "/claim/cut.py" 545)])) ::
  (nat_lit 270, (fnO (nth (clsBody (nth PySem.Challenge.pw_uf030038_05.main.body 27)) 7) (Str.ofString "Loom.do_deed") (sv "eventloom.loom" 432) 269)) ::
  (nat_lit 276, (codeO [(sv "make" 547), (sv "Loom.make" 548), (sv "/claim/cut.py" 549), (nv (201) 0), (nv (3) 0), (nv (0) 0), (nv (0) 0), (nv (3) 0), (rv 271), (.bool true), (nv (181) 0), (rv 272), .none, (rv 273), (rv 274), (rv 275), (nv (555) 0), (nv (201) 0), (sv "/claim/cut.py" 556)])) ::
  (nat_lit 277, (fnO (nth (clsBody (nth PySem.Challenge.pw_uf030038_05.main.body 27)) 8) (Str.ofString "Loom.make") (sv "eventloom.loom" 432) 276)) ::
  (nat_lit 283, (codeO [(sv "run" 558), (sv "Loom.run" 559), (sv "/claim/cut.py" 560), (nv (215) 0), (nv (2) 0), (nv (0) 0), (nv (0) 0), (nv (3) 0), (rv 278), (.bool true), (nv (181) 0), (rv 279), .none, (rv 280), (rv 281), (rv 282), (nv (564) 0), (nv (215) 0), (sv "/claim/cut.py" 565)])) ::
  (nat_lit 284, (fnO (nth (clsBody (nth PySem.Challenge.pw_uf030038_05.main.body 27)) 9) (Str.ofString "Loom.run") (sv "eventloom.loom" 432) 283)) ::
  (nat_lit 290, (codeO [(sv "waiting" 567), (sv "Loom.waiting" 568), (sv "/claim/cut.py" 569), (nv (223) 0), (nv (1) 0), (nv (0) 0), (nv (0) 0), (nv (3) 0), (rv 285), (.bool true), (nv (181) 0), (rv 286), .none, (rv 287), (rv 288), (rv 289), (nv (571) 0), (nv (223) 0), (sv "/claim/cut.py" 572)])) ::
  (nat_lit 291, (fnO (nth (clsBody (nth PySem.Challenge.pw_uf030038_05.main.body 27)) 10) (Str.ofString "Loom.waiting") (sv "eventloom.loom" 432) 290)) ::
  (nat_lit 295, (codeO [(sv "around" 574), (sv "Loom.around" 575), (sv "/claim/cut.py" 576), (nv (228) 0), (nv (1) 0), (nv (0) 0), (nv (0) 0), (nv (3) 0), (rv 292), (.bool true), (nv (181) 0), (rv 293), .none, .none, .none, (rv 294), (nv (577) 0), (nv (228) 0), (sv "/claim/cut.py" 578)])) ::
  (nat_lit 296, (fnO (nth (clsBody (nth PySem.Challenge.pw_uf030038_05.main.body 27)) 11) (Str.ofString "Loom.around") (sv "eventloom.loom" 432) 295)) ::
  (nat_lit 302, (codeO [(sv "standing" 580), (sv "Loom.standing" 581), (sv "/claim/cut.py" 582), (nv (231) 0), (nv (1) 0), (nv (0) 0), (nv (0) 0), (nv (3) 0), (rv 297), (.bool true), (nv (181) 0), (rv 298), .none, (rv 299), (rv 300), (rv 301), (nv (584) 0), (nv (231) 0), (sv "/claim/cut.py" 585)])) ::
  (nat_lit 303, (fnO (nth (clsBody (nth PySem.Challenge.pw_uf030038_05.main.body 27)) 12) (Str.ofString "Loom.standing") (sv "eventloom.loom" 432) 302)) ::
  (nat_lit 309, (codeO [(sv "idle" 587), (sv "Loom.idle" 588), (sv "/claim/cut.py" 589), (nv (234) 0), (nv (1) 0), (nv (0) 0), (nv (0) 0), (nv (3) 0), (rv 304), (.bool true), (nv (181) 0), (rv 305), .none, (rv 306), (rv 307), (rv 308), (nv (591) 0), (nv (234) 0), (sv "/claim/cut.py" 592)])) ::
  (nat_lit 310, (fnO (nth (clsBody (nth PySem.Challenge.pw_uf030038_05.main.body 27)) 13) (Str.ofString "Loom.idle") (sv "eventloom.loom" 432) 309)) ::
  (nat_lit 312, (dictO [de P "__module__" 473 (sv "eventloom.loom" 432), de P "__firstlineno__" 477 (nv (118) 476), de P "__init__" 486 (rv 223), de P "send" 495 (rv 230), de P "step" 504 (rv 237), de P "begin" 513 (rv 244), de P "go_on" 521 (rv 251), de P "call_in" 531 (rv 258), de P "send_away" 540 (rv 265), de P "do_deed" 546 (rv 270), de P "make" 557 (rv 277), de P "run" 566 (rv 284), de P "waiting" 573 (rv 291), de P "around" 579 (rv 296), de P "standing" 586 (rv 303), de P "idle" 593 (rv 310), de P "__static_attributes__" 602 (rv 311), de P "__dict__" 604 (rv 314), de P "__weakref__" 606 (rv 315), de P "__doc__" 607 .none] 4)) ::
  (nat_lit 313, ⟨.type "type", none, .cls { name := Str.ofString "Loom", bases := [(.type "object")], mro := [(rv 313), (.type "object")], ns := 312, qualname := Str.ofString "Loom", hasDict := true, slotNames := [], subclasses := [], abstract := false, collection := none, hasDel := false }, [none, none, some (sv "Loom" 466), some (sv "Loom" 474), some (.builtin "object.__new__"), some (.bool true)].toArray⟩) ::
  (nat_lit 314, ⟨(.type "getset_descriptor"), none, .fields [(sv "__dict__" 603), (rv 313), (.builtin "function.__dict__"), (.builtin "function.__dict__#set")].toArray, #[]⟩) ::
  (nat_lit 315, ⟨(.type "getset_descriptor"), none, .fields [(sv "__weakref__" 605), (rv 313), (.builtin "ExceptionGroup.__weakref__"), .none].toArray, #[]⟩) ::
  (nat_lit 323, (codeO [(sv "_law_told_at" 612), (sv "_law_told_at" 613), (sv "/claim/cut.py" 614), (nv (237) 0), (nv (2) 0), (nv (0) 0), (nv (0) 0), (nv (3) 0), (rv 318), (.bool true), (nv (181) 0), (rv 319), .none, (rv 320), (rv 321), (rv 322), (nv (617) 0), (nv (237) 0), (sv "/claim/cut.py" 618)])) ::
  (nat_lit 324, (fnO (nth PySem.Challenge.pw_uf030038_05.main.body 29) (Str.ofString "_law_told_at") (sv "law_uf030038_05" 610) 323)) ::
  (nat_lit 330, (codeO [(sv "_law_name_by" 620), (sv "_law_name_by" 621), (sv "/claim/cut.py" 622), (nv (241) 0), (nv (2) 0), (nv (0) 0), (nv (0) 0), (nv (3) 0), (rv 325), (.bool true), (nv (181) 0), (rv 326), .none, (rv 327), (rv 328), (rv 329), (nv (628) 0), (nv (241) 0), (sv "/claim/cut.py" 629)])) ::
  (nat_lit 331, (fnO (nth PySem.Challenge.pw_uf030038_05.main.body 30) (Str.ofString "_law_name_by") (sv "law_uf030038_05" 610) 330)) ::
  (nat_lit 337, (codeO [(sv "_law_kind" 631), (sv "_law_kind" 632), (sv "/claim/cut.py" 633), (nv (246) 0), (nv (1) 0), (nv (0) 0), (nv (0) 0), (nv (3) 0), (rv 332), (.bool true), (nv (181) 0), (rv 333), .none, (rv 334), (rv 335), (rv 336), (nv (636) 0), (nv (246) 0), (sv "/claim/cut.py" 637)])) ::
  (nat_lit 338, (fnO (nth PySem.Challenge.pw_uf030038_05.main.body 31) (Str.ofString "_law_kind") (sv "law_uf030038_05" 610) 337)) ::
  (nat_lit 344, (codeO [(sv "_law_refused" 639), (sv "_law_refused" 640), (sv "/claim/cut.py" 641), (nv (252) 0), (nv (3) 0), (nv (0) 0), (nv (0) 0), (nv (3) 0), (rv 339), (.bool true), (nv (181) 0), (rv 340), .none, (rv 341), (rv 342), (rv 343), (nv (646) 0), (nv (252) 0), (sv "/claim/cut.py" 647)])) ::
  (nat_lit 345, (fnO (nth PySem.Challenge.pw_uf030038_05.main.body 32) (Str.ofString "_law_refused") (sv "law_uf030038_05" 610) 344)) ::
  (nat_lit 351, (codeO [(sv "_law_near" 649), (sv "_law_near" 650), (sv "/claim/cut.py" 651), (nv (261) 0), (nv (2) 0), (nv (0) 0), (nv (0) 0), (nv (3) 0), (rv 346), (.bool true), (nv (181) 0), (rv 347), .none, (rv 348), (rv 349), (rv 350), (nv (656) 0), (nv (261) 0), (sv "/claim/cut.py" 657)])) ::
  (nat_lit 352, (fnO (nth PySem.Challenge.pw_uf030038_05.main.body 33) (Str.ofString "_law_near") (sv "law_uf030038_05" 610) 351)) ::
  (nat_lit 358, (codeO [(sv "_law_due" 659), (sv "_law_due" 660), (sv "/claim/cut.py" 661), (nv (266) 0), (nv (2) 0), (nv (0) 0), (nv (0) 0), (nv (3) 0), (rv 353), (.bool true), (nv (181) 0), (rv 354), .none, (rv 355), (rv 356), (rv 357), (nv (665) 0), (nv (266) 0), (sv "/claim/cut.py" 666)])) ::
  (nat_lit 359, (fnO (nth PySem.Challenge.pw_uf030038_05.main.body 34) (Str.ofString "_law_due") (sv "law_uf030038_05" 610) 358)) ::
  (nat_lit 365, (codeO [(sv "_law_fresh" 668), (sv "_law_fresh" 669), (sv "/claim/cut.py" 670), (nv (273) 0), (nv (2) 0), (nv (0) 0), (nv (0) 0), (nv (3) 0), (rv 360), (.bool true), (nv (181) 0), (rv 361), .none, (rv 362), (rv 363), (rv 364), (nv (673) 0), (nv (273) 0), (sv "/claim/cut.py" 674)])) ::
  (nat_lit 366, (fnO (nth PySem.Challenge.pw_uf030038_05.main.body 35) (Str.ofString "_law_fresh") (sv "law_uf030038_05" 610) 365)) ::
  (nat_lit 370, (codeO [(sv "_law_goes_on" 676), (sv "_law_goes_on" 677), (sv "/claim/cut.py" 678), (nv (279) 0), (nv (3) 0), (nv (0) 0), (nv (0) 0), (nv (3) 0), (rv 367), (.bool true), (nv (181) 0), (rv 368), .none, .none, .none, (rv 369), (nv (679) 0), (nv (279) 0), (sv "/claim/cut.py" 680)])) ::
  (nat_lit 371, (fnO (nth PySem.Challenge.pw_uf030038_05.main.body 36) (Str.ofString "_law_goes_on") (sv "law_uf030038_05" 610) 370)) ::
  (nat_lit 375, (codeO [(sv "law" 682), (sv "law" 683), (sv "/claim/cut.py" 684), (nv (287) 0), (nv (1) 0), (nv (0) 0), (nv (0) 0), (nv (3) 0), (rv 372), (.bool true), (nv (181) 0), (rv 373), .none, .none, .none, (rv 374), (nv (685) 0), (nv (287) 0), (sv "/claim/cut.py" 686)])) ::
  (nat_lit 376, (fnO (nth PySem.Challenge.pw_uf030038_05.main.body 37) (Str.ofString "law") (sv "law_uf030038_05" 610) 375)) :: []
noncomputable def asL : List Addr := [2, 3, 23, 24, 25, 36, 37, 48, 49, 60, 61, 72, 73, 84, 85, 93, 94, 98, 99, 105, 106, 107, 113, 114, 118, 119, 125, 126, 130, 131, 135, 136, 149, 150, 156, 157, 163, 164, 168, 169, 175, 176, 180, 181, 183, 184, 185, 186, 201, 202, 204, 205, 206, 207, 222, 223, 229, 230, 236, 237, 243, 244, 250, 251, 257, 258, 264, 265, 269, 270, 276, 277, 283, 284, 290, 291, 295, 296, 302, 303, 309, 310, 312, 313, 314, 315, 323, 324, 330, 331, 337, 338, 344, 345, 351, 352, 358, 359, 365, 366, 370, 371, 375, 376]
theorem asL_eq : ∀ P, asL = (KL P).map (·.1) := fun _ => by kernel_rfl
noncomputable abbrev HL : Hook := kmHook KL asL asL_eq [133]
noncomputable abbrev qL : Program := view PySem.Challenge.pw_uf030038_05 keepL
noncomputable abbrev XtL : Shared → Bool := fun s => xlAt qL [] s && recOk [] s
theorem saidL (h : PySem.Challenge.rw_uf030038_05.row.wellSaid = true → PySem.Challenge.rw_uf030038_05.row.Holds) : PySem.Challenge.rw_uf030038_05.Holds := by
  refine holds_law (by kernel_rfl) fun said => ?_
  exact h said
theorem runL : ∀ w : World, (fun os => (segRunT treeTable PySem.Challenge.pw_uf030038_05 w 11 (some (.ref 6)) 0 3138 ⟨T0 w.params, 11, {}, Array.mk [], boot_drawn, boot_toks, os⟩ (topStub PySem.Challenge.pw_uf030038_05)).map fun r => looksAt PySem.Challenge.pw_uf030038_05 qL [] XtL (Hook.obs HL) true (boot_heap w.params) r.2.1.abs) = fun _ => some (true, openGood qL [], Hook.val HL w) := by
  intro w
  unfold looksAt
  show _ = fun _ => some (true, openGood qL [], ((KL w.params).map fun p => some p.2, [133].map fun _ => some (tabObj #[])))
  unfold KL XtL qL
  rw [PySem.W.Fast.te10110043849684766642, PySem.W.Fast.te14364793385576792824, PySem.W.Fast.te4187177175401517315, PySem.W.Fast.te5923862056798008813]
  kernel_rfl
theorem leftL : LeftO PySem.Challenge.pw_uf030038_05 qL [] XtL (Hook.obs HL) (Hook.val HL) 6336 :=
  left_of_run (T₀ := T0) (n₀ := 11) (life := {}) (ann := some (.ref 6)) (M := 3138) (H₀ := boot_heap) (boot_open (by kernel_rfl) rfl fun _ => by kernel_rfl) T0_abs boot_size rfl runL
noncomputable abbrev dL : DefRec := defRec (nth PySem.Challenge.pw_uf030038_05.main.body 37)
theorem defL : defOf qL (Str.ofString "law") = some (dL, []) := by
  unfold qL dL
  kernel_rfl
theorem theL : PySem.Challenge.pw_uf030038_05.theDef (Str.ofString "law") = some (dL.params, dL.body, dL.scope) := by
  unfold dL
  kernel_rfl
theorem okL : (chainsOk qL && opensWell PySem.Challenge.pw_uf030038_05 && (frees PySem.Challenge.rw_uf030038_05.row.toRowW && PySem.Challenge.rw_uf030038_05.row.within.isEmpty)) = true := by
  show (chainsOk qL && opensWell PySem.Challenge.pw_uf030038_05 && (frees PySem.Challenge.rw_uf030038_05.row.toRowW && true)) = true
  unfold qL
  kernel_rfl
theorem bareL : PySem.Challenge.pw_uf030038_05.bare := ⟨rfl, rfl, rfl, rfl, rfl, by decide +kernel⟩
theorem hd (call : WalkO qL [] (XL qL []) (Hook.says HL) PySem.Challenge.rw_uf030038_05.row.toRowW dL [] (fun f vs => PySem.call f vs)) : PySem.Challenge.rw_uf030038_05.Holds :=
  saidL fun said => holds_open (r := PySem.Challenge.rw_uf030038_05.row) (q := qL) (loose := []) (Xt := XtL) (XP := XL qL []) (Yf := Hook.obs HL) (Ya := Hook.val HL) (YP := Hook.says HL) (N := 6336) leftL (Hook.of HL) (Hook.keeps HL) (fun s e => xl_of s (Bool.and_eq_true_iff.mp e).1) XL.keeps defL theL rfl (fun s e => recFacts_of (Bool.and_eq_true_iff.mp e).2) rfl said okL bareL (by w_witness2) call
end Mine

open PySem PySem.W PySem.SeqAt PyProof.Rows
set_option Elab.async false
set_option maxRecDepth 100000
set_option maxHeartbeats 8000000
set_option linter.unusedVariables false
set_option linter.unusedSimpArgs false
namespace Mine
theorem kept : KL = KL ∧ PySem.Challenge.rw_uf030038_05 = PySem.Challenge.rw_uf030038_05 := by
  k_fill
  exact ⟨rfl, rfl⟩
variable {C : Cx} {A : Around} {σ : Store} {X : XP}
theorem words : True := by
  k_with_none
  k_with "mK" => ((rw [hK]; k_is))
  k_with "mne" => (exact ofS_ne (by decide))
  k_with "mget" => (first   | with_reducible exact Rho.get_hit   | with_reducible exact Rho.gp_hit   | with_reducible assumption   | (focus ((with_reducible apply Rho.get_miss); (focus (k_extra "mne")); (focus (k_extra "mget"))))   | (focus ((with_reducible apply Rho.gp_miss4); (focus (k_extra "mne")); (focus (k_extra "mne")); (focus (k_extra "mne")); (focus (k_extra "mne")); (focus (k_extra "mget"))))   | (focus ((with_reducible apply Rho.gp_miss); (focus (k_extra "mne")); (focus (k_extra "mget")))))
  k_with "mput" => (first   | with_reducible exact Rho.put_hit   | with_reducible exact Rho.put_nil   | (focus ((with_reducible apply Rho.put_miss); (focus (k_extra "mne")); (focus (k_extra "mput"))))   | with_reducible exact rfl)
  k_with "mcapt" => (first   | exact Capt.nil   | (focus ((with_reducible apply Capt.take); (focus (k_extra "mget")); (focus (k_extra "mcapt"))))   | (focus ((with_reducible apply Capt.skip); (focus (decide)); (focus (k_extra "mcapt")))))
  k_with "mvrs" => (first   | exact VRs.nil   | (focus ((with_reducible apply VRs.cons); (focus (k_extra "mvr")); (focus (k_extra "mvrs")))))
  k_with "mvr" => (first | (focus ((with_reducible apply VR.gtup); (focus (k_extra "mK")); (focus (k_extra "mvrs")))) | exact VR.ref _ | exact VR.int _ _ | exact VR.str _ _ | exact VR.typ _ | exact VR.blt _ | exact VR.bool _ | exact VR.none)
  k_with "mname" => (first   | (focus ((with_reducible apply Ev.nloc); (focus (kernel_rfl!)); (focus (k_extra "mget")); rotate_left; (focus (kernel_rfl))))   | (focus ((with_reducible apply Ev.ncel); (focus (kernel_rfl!)); (focus (k_extra "mget")); rotate_left; (focus (kernel_rfl)); (focus (kernel_rfl))))   | (focus ((with_reducible apply Ev.nfree); (focus (kernel_rfl!)); (focus (k_extra "mget")); rotate_left; (focus (kernel_rfl)); (focus (kernel_rfl)); (focus (kernel_rfl))))   | (focus ((with_reducible apply Ev.nglob); (focus (kernel_rfl!)); (focus (k_extra "mK")); (focus (k_extra "mvr")); rotate_left; (focus (kernel_rfl))))   | (focus ((with_reducible apply Ev.nblt); (focus (kernel_rfl!)); (focus (k_extra "mK")); (focus (boot_by_name)); (focus (k_extra "mvr")); rotate_left; (focus (decide)); (focus (kernel_rfl)))))
  k_with "mcomp" => (first   | (focus ((with_reducible apply Ev.lcomp); (focus (k_extra "mcapt")); (focus (kernel_rfl!)); (focus (kernel_rfl!)); (focus (rfl)); rotate_left; (focus (kernel_rfl)); (focus (intro _; kernel_rfl)))))
  k_with "mcompA" => (first   | (focus ((with_reducible apply Ex.lassign); (focus (k_extra "mcapt")); (focus (kernel_rfl!)); (focus (kernel_rfl!)); (focus (rfl)); (focus (kernel_rfl!)); rotate_left; (focus (kernel_rfl)); (focus (kernel_rfl)); (focus (kernel_rfl)); (focus (intro _; kernel_rfl)))))
  k_with "msz" => (exact small_le rfl)
  k_with "mnea" => (first | with_reducible assumption | exact Ne.symm (by with_reducible assumption))
  k_with "mst" => (first   | with_reducible exact Store.hit   | with_reducible assumption   | (focus ((with_reducible apply Store.miss); (focus (k_extra "mnea")); (focus (k_extra "mst"))))   | (focus ((with_reducible apply Store.at_fresh); (focus (k_extra "mst")); (focus (k_extra "mst")))))
  k_with "mty" => ((focus ((with_reducible apply TyGo.mk); (focus (first | exact TyV.str | (focus ((with_reducible apply TyV.list); (focus (k_extra "mst")))))))))
  k_with "mom" => (first | (first | lia | omega) | (simp only [List.length_map, List.length_append, List.length_reverse, List.length_cons, List.length_nil, sizeLine_eq]; (first | lia | omega)) | (simp only [List.length_map, List.length_append, List.length_reverse, List.length_cons, List.length_nil, sizeLine_eq] at *; (first | lia | omega)) | (simp [sizeLine_eq] at *; (first | lia | omega)))
  k_with "msput" => (first   | with_reducible exact sput_nil   | with_reducible exact sput_hit   | (focus ((with_reducible apply sput_miss); (focus (k_extra "mne")); (focus (k_extra "msput")))))
  k_with "msget" => (first   | with_reducible exact sget_hit   | with_reducible assumption   | with_reducible exact sget_nil   | (focus ((with_reducible apply sget_miss); (focus (k_extra "mne")); (focus (k_extra "msget")))))
  k_with "mlst" => (first | (focus ((with_reducible apply LstAt.st); (focus (k_extra "mst")))) | with_reducible assumption)
  k_with "mhasty" => (first   | exact HasTy.none   | exact HasTy.bool _   | exact HasTy.int _   | exact HasTy.str _   | exact HasTy.tup _   | (focus ((with_reducible apply HasTy.list); (focus (k_extra "mlst"))))   | (focus ((with_reducible apply HasTy.sd); (focus (k_extra "mst"))))   | (focus ((with_reducible apply HasTy.id); (focus (k_extra "mst")))))
  k_with "mhasty" => (first   | exact HasTy.none   | exact HasTy.bool _   | exact HasTy.int _   | exact HasTy.str _   | exact HasTy.tup _   | (focus ((with_reducible apply HasTy.list); (focus (k_extra "mlst"))))   | (focus ((with_reducible apply HasTy.sd); (focus (k_extra "mst"))))   | (focus ((with_reducible apply HasTy.id); (focus (k_extra "mst")))))
  k_with "masg" => (first   | (focus ((with_reducible apply Asg.nloc); (focus (kernel_rfl!)); (focus (k_extra "mput")); rotate_left; (focus (kernel_rfl))))   | (focus ((with_reducible apply Asg.ncel); (focus (kernel_rfl!)); (focus (k_extra "mput")); rotate_left; (focus (kernel_rfl))))   | (focus ((with_reducible apply Asg.tup); (focus (first | assumption)); (focus (rfl)); rotate_left; (focus (kernel_rfl)); (focus (kernel_rfl))))   | (with_reducible refine Asg.sub ?_)   | (with_reducible refine Asg.attr' ?_))
  k_with "mobj" => (first   | k_extra "mname"   | ((with_reducible refine Ev.attr' ?_); k_extra "mname"; (focus ((with_reducible apply AttrWP.mk); (focus (k_extra "mst")); (focus (k_extra "mst")); (focus (k_extra "msget")); (focus (k_extra "mK")); (focus (k_extra "mK")); (focus (k_extra "mK")); (focus (k_extra "mK")); (focus ((intro _ q; cases q))))))   | ((with_reducible refine Ev.sub ?_); k_extra "mname"; (with_reducible refine Ev.cstr ?_); (focus ((with_reducible apply ItemWP.sd); (focus (k_extra "mst")); (focus (k_extra "msget"))))))
  k_with "mpop" => (first   | ((focus ((with_reducible refine' Ev.bmeth F.plainAttrs_list F.slot_list_pop F.type_list_pop ?_ ?_ ?_ ?_ ?_); rotate_left; (focus (kernel_rfl)); (focus (kernel_rfl)); (focus (kernel_rfl)); (focus (kernel_rfl)))); k_extra "mobj"; k_extra "mty")   | ((focus ((with_reducible refine' Ev.bmeth F.plainAttrs_dict F.slot_dict_pop F.type_dict_pop ?_ ?_ ?_ ?_ ?_); rotate_left; (focus (kernel_rfl)); (focus (kernel_rfl)); (focus (kernel_rfl)); (focus (kernel_rfl)))); k_extra "mobj"; k_extra "mty"))
  k_with "mmeth" => (first   | k_extra "mpop"   | (focus ((with_reducible refine' Ev.bmeth F.plainAttrs_list F.slot_list_append F.type_list_append ?_ ?_ ?_ ?_ ?_); rotate_left; (focus (kernel_rfl)); (focus (kernel_rfl)); (focus (kernel_rfl)); (focus (kernel_rfl))))   | (focus ((with_reducible refine' Ev.bmeth F.plainAttrs_list F.slot_list_remove F.type_list_remove ?_ ?_ ?_ ?_ ?_); rotate_left; (focus (kernel_rfl)); (focus (kernel_rfl)); (focus (kernel_rfl)); (focus (kernel_rfl))))   | (focus ((with_reducible refine' Ev.bmeth F.plainAttrs_list F.slot_list_clear F.type_list_clear ?_ ?_ ?_ ?_ ?_); rotate_left; (focus (kernel_rfl)); (focus (kernel_rfl)); (focus (kernel_rfl)); (focus (kernel_rfl))))   | (focus ((with_reducible refine' Ev.bmeth F.plainAttrs_list F.slot_list_reverse F.type_list_reverse ?_ ?_ ?_ ?_ ?_); rotate_left; (focus (kernel_rfl)); (focus (kernel_rfl)); (focus (kernel_rfl)); (focus (kernel_rfl))))   | (focus ((with_reducible refine' Ev.bmeth F.plainAttrs_str F.slot_str_join F.type_str_join ?_ ?_ ?_ ?_ ?_); rotate_left; (focus (kernel_rfl)); (focus (kernel_rfl)); (focus (kernel_rfl)); (focus (kernel_rfl))))   | (focus ((with_reducible refine' Ev.bmeth F.plainAttrs_list F.slot_list_insert F.type_list_insert ?_ ?_ ?_ ?_ ?_); rotate_left; (focus (kernel_rfl)); (focus (kernel_rfl)); (focus (kernel_rfl)); (focus (kernel_rfl))))   | (focus ((with_reducible refine' Ev.bmeth F.plainAttrs_list F.slot_list_index F.type_list_index ?_ ?_ ?_ ?_ ?_); rotate_left; (focus (kernel_rfl)); (focus (kernel_rfl)); (focus (kernel_rfl)); (focus (kernel_rfl))))   | (focus ((with_reducible refine' Ev.bmeth F.plainAttrs_list F.slot_list_count F.type_list_count ?_ ?_ ?_ ?_ ?_); rotate_left; (focus (kernel_rfl)); (focus (kernel_rfl)); (focus (kernel_rfl)); (focus (kernel_rfl))))   | (focus ((with_reducible refine' Ev.bmeth F.plainAttrs_str F.slot_str_upper F.type_str_upper ?_ ?_ ?_ ?_ ?_); rotate_left; (focus (kernel_rfl)); (focus (kernel_rfl)); (focus (kernel_rfl)); (focus (kernel_rfl)))))
  k_with "mcall" => (first   | (with_reducible refine Ev.callR ?_; k_extra "mname"; refine' ⟨_, rfl, (by k_extra "mK"), ?_⟩)   | (with_reducible refine Ev.callB ?_; k_extra "mname"; first | refine' ⟨_, .inl ⟨rfl, ?_⟩⟩ | refine' ⟨_, .inr ⟨rfl, ?_⟩⟩))
  k_with "mev" => (first   | (focus ((with_reducible refine is.nm ?_); first | k_extra "mname"))   | (with_reducible refine Ev.cint ?_)   | (with_reducible refine Ev.cstr ?_)   | (with_reducible refine Ev.cbool ?_)   | (with_reducible refine Ev.cnone ?_)   | (with_reducible refine Ev.bin ?_)   | (with_reducible refine Ev.cmp ?_)   | (with_reducible refine Ev.slice ?_)   | (with_reducible refine Ev.sub ?_)   | (with_reducible refine Ev.attr' ?_)   | (with_reducible refine Ev.tuple ?_)   | (focus ((with_reducible refine is.cl ?_); first | k_extra "mmeth" | (with_reducible refine Ev.meth' ?_) | k_extra "mcall"))   | (with_reducible refine Ev.un ?_)   | (with_reducible refine Ev.chain ?_)   | (with_reducible refine Ev.boolop ?_)   | (with_reducible refine Ev.list ?_)   | (focus ((with_reducible refine is.lc ?_); first | k_extra "mcomp"))   | (focus ((with_reducible refine is.dc ?_); first | k_extra "mdict")))
  k_with "mex" => (first   | (with_reducible refine Ex.ret ?_)   | (with_reducible refine Ex.ite ?_)   | (with_reducible refine Ex.expr ?_)   | (focus ((with_reducible refine is.alc ?_); first | k_extra "mcompA"))   | (with_reducible refine Ex.assign ?_)   | (focus ((with_reducible apply Ex.for); rotate_left; (focus (intro _; kernel_rfl)))))
  k_with "m" => (first   | (focus ((with_reducible refine is.ev ?_); first | k_extra "mev"))   | (focus ((with_reducible refine is.exs ?_); first | (with_reducible refine Exs.cons ?_) | (with_reducible refine Exs.nil ?_)))   | (focus ((with_reducible refine is.thn ?_); first | (with_reducible refine Then.next ?_) | (with_reducible refine Then.ret ?_)))   | (focus ((with_reducible refine is.ags ?_); first | (with_reducible refine Ags.cons ?_) | (with_reducible refine Ags.nil ?_)))   | (focus ((with_reducible refine is.cmp ?_); first | (with_reducible refine CmpWP.eq_int ?_) | (with_reducible refine CmpWP.ne_int ?_) | (with_reducible refine CmpWP.lt_int ?_) | (with_reducible refine CmpWP.le_int ?_) | (with_reducible refine CmpWP.gt_int ?_) | (with_reducible refine CmpWP.ge_int ?_) | (with_reducible refine CmpWP.eq_str ?_) | (with_reducible refine CmpWP.ne_str ?_) | (with_reducible refine CmpWP.inStr ?_) | (with_reducible refine CmpWP.isNone ?_) | (with_reducible refine CmpWP.isNotNone ?_) | (with_reducible refine CmpWP.isB ?_)))   | (focus ((with_reducible refine is.tst ?_); first | (with_reducible refine Tst.cmp ?_) | (with_reducible refine Tst.not ?_) | (with_reducible refine Tst.boolop ?_) | (with_reducible refine Tst.chain ?_) | (with_reducible refine Tst.val ?_)))   | (focus ((with_reducible refine is.ex ?_); first | k_extra "mex"))   | (focus ((with_reducible refine is.asg ?_); first | k_extra "masg"))   | (focus ((with_reducible refine is.bin ?_); first | (with_reducible refine BinWP.add_int ?_) | (with_reducible refine BinWP.sub_int ?_) | (focus ((with_reducible apply BinWP.mul_int); rotate_left; (focus (first | exact intMul_l (by decide) (by decide) | exact intMul_r (by decide) (by decide) | exact intMul_l (by (first | lia | omega)) (by (first | lia | omega)) | exact intMul_r (by (first | lia | omega)) (by (first | lia | omega)))))) | (focus ((with_reducible apply BinWP.fmod_int); (focus (decide)))) | (focus ((with_reducible apply BinWP.fdiv_int); (focus (decide)); (focus (decide))))))   | (focus ((with_reducible refine is.tru ?_); first | (with_reducible refine TruWP.bool ?_) | (focus ((with_reducible apply TruWP.list); (focus (k_extra "mlst")); (focus (k_extra "mom"))))))   | (focus ((with_reducible refine is.item ?_); first | (with_reducible refine ItemWP.tup0 ?_) | (with_reducible refine ItemWP.tup1 ?_) | (with_reducible refine ItemWP.tup2 ?_) | (with_reducible refine ItemWP.tup3 ?_) | (with_reducible refine ItemWP.tup4 ?_) | (with_reducible refine ItemWP.neg2 ?_) | (with_reducible refine ItemWP.neg3 ?_) | (focus ((with_reducible apply ItemWP.last); (focus (k_extra "mlst")))) | (focus ((with_reducible apply ItemWP.sd); (focus (k_extra "mst")); (focus (k_extra "msget"))))))   | (focus ((with_reducible refine is.call ?_); first | (focus ((with_reducible apply CallWP.isiLT); (focus (k_extra "mhasty")); (focus (first | exact Or.inl rfl | exact Or.inr rfl)))) | (focus ((with_reducible apply isi_t); (focus (k_extra "mhasty")); (focus (decide)); (focus (rfl)))) | (focus ((with_reducible apply CallWP.append); (focus (k_extra "mst")); (focus (k_extra "mom")))) | (focus ((with_reducible apply BltWP.len_list); (focus (k_extra "mlst")); (focus (k_extra "mom")))) | (focus ((with_reducible apply CallWP.len_tup); (focus (k_extra "mom")))) | (focus ((with_reducible apply CallWP.pop); (focus (k_extra "mst")); (focus (k_extra "mom")))) | (focus ((with_reducible apply CallWP.listOf); (focus (k_extra "mlst")); (focus (k_extra "mom")))) | (with_reducible refine CallWP.range1 ?_)))   | (focus ((with_reducible refine is.lp ?_); first | (with_reducible refine LpQ.n ?_) | (with_reducible refine LpQ.r ?_)))   | (with_reducible refine WhQ.n ?_)   | (focus ((with_reducible refine is.br ?_); first | (focus ((with_reducible apply Br.t); (focus (rfl)))) | (focus ((with_reducible apply Br.f); (focus (rfl)))) | (focus ((with_reducible apply Br.t); (focus (decide +kernel)))) | (focus ((with_reducible apply Br.f); (focus (decide +kernel)))) | (focus ((with_reducible apply Br.t); (focus ((simp; done))))) | (focus ((with_reducible apply Br.f); (focus ((simp; done)))))))   | (with_reducible refine AllT.and_cons ?_)   | (with_reducible refine AllT.or_cons ?_)   | (with_reducible refine AllT.and_nil ?_)   | (with_reducible refine AllT.or_nil ?_)   | (with_reducible refine BoolE.one ?_)   | (with_reducible refine BoolE.and ?_)   | (with_reducible refine Ifs.nil ?_)   | (with_reducible refine Ifs.one ?_)   | (with_reducible refine UnWP.neg_int ?_)   | (with_reducible refine UnWP.not ?_)   | (with_reducible refine AsgO.cons ?_)   | (with_reducible refine AsgO.nil ?_)   | (with_reducible refine Prt.none ?_)   | (with_reducible refine Prt.some ?_)   | k_extra "mty"   | (focus ((with_reducible apply Szs.mk); (focus (k_extra "msz"))))   | (focus ((with_reducible apply AttrWP.mk); (focus (k_extra "mst")); (focus (k_extra "mst")); (focus (k_extra "msget")); (focus (k_extra "mK")); (focus (k_extra "mK")); (focus (k_extra "mK")); (focus (k_extra "mK")); (focus ((intro _ q; cases q)))))   | (focus ((with_reducible apply MethWP.mk); (focus (k_extra "mst")); (focus (k_extra "mst")); (focus (k_extra "msget")); (focus (k_extra "mK")); (focus (k_extra "mK")); (focus (k_extra "mK")); (focus (k_extra "mK"))))   | (focus ((with_reducible apply SAttWP.mk); (focus (k_extra "mst")); (focus (k_extra "mst")); (focus (exact Nat.le_of_ble_eq_true rfl)); (focus (k_extra "mK")); (focus (k_extra "mK")); (focus (k_extra "mK")); (focus (k_extra "mK")); (focus (k_extra "msput"))))   | (focus ((with_reducible apply Src.enumN); (focus (assumption)); rotate_left; (focus (kernel_rfl)); (focus (kernel_rfl))))   | (with_reducible refine Src.of ?_)   | (focus ((with_reducible apply Eqs.mk); (focus (rfl)))))
  k_with "mdef0" => (refine' CallWP.def0  (by k_extra "mK") (by k_extra "mK") (by assumption) (by with_unfolding_all rfl) (by decide +kernel) (by kernel_rfl!) (by kernel_rfl!) (by rfl) (by rfl) (by rfl) ?_)
  k_with "mdef1" => (refine' CallWP.def1 _ (by k_extra "mK") (by k_extra "mK") (by assumption) (by intro _; with_unfolding_all rfl) (by decide +kernel) (by kernel_rfl!) (by kernel_rfl!) (by rfl) (by rfl) (by rfl) ?_)
  k_with "mdef2" => (refine' CallWP.def2 _ _ (by k_extra "mK") (by k_extra "mK") (by assumption) (by intro _ _; with_unfolding_all rfl) (by decide +kernel) (by kernel_rfl!) (by kernel_rfl!) (by rfl) (by rfl) (by rfl) ?_)
  k_with "mdef3" => (refine' CallWP.def3 _ _ _ (by k_extra "mK") (by k_extra "mK") (by assumption) (by intro _ _ _; with_unfolding_all rfl) (by decide +kernel) (by kernel_rfl!) (by kernel_rfl!) (by rfl) (by rfl) (by rfl) ?_)
  k_with "mdef4" => (refine' CallWP.def4 _ _ _ _ (by k_extra "mK") (by k_extra "mK") (by assumption) (by intro _ _ _ _; with_unfolding_all rfl) (by decide +kernel) (by kernel_rfl!) (by kernel_rfl!) (by rfl) (by rfl) (by rfl) ?_)
  k_with "mdef5" => (refine' CallWP.def5 _ _ _ _ _ (by k_extra "mK") (by k_extra "mK") (by assumption) (by intro _ _ _ _ _; with_unfolding_all rfl) (by decide +kernel) (by kernel_rfl!) (by kernel_rfl!) (by rfl) (by rfl) (by rfl) ?_)
  k_with "mdef6" => (refine' CallWP.def6 _ _ _ _ _ _ (by k_extra "mK") (by k_extra "mK") (by assumption) (by intro _ _ _ _ _ _; with_unfolding_all rfl) (by decide +kernel) (by kernel_rfl!) (by kernel_rfl!) (by rfl) (by rfl) (by rfl) ?_)
  k_with "mdef7" => (refine' CallWP.def7 _ _ _ _ _ _ _ (by k_extra "mK") (by k_extra "mK") (by assumption) (by intro _ _ _ _ _ _ _; with_unfolding_all rfl) (by decide +kernel) (by kernel_rfl!) (by kernel_rfl!) (by rfl) (by rfl) (by rfl) ?_)
  k_with "mdefC1" => (refine' CodC.def1 _ (by k_extra "mK") (by k_extra "mK") (by assumption) (by intro _; with_unfolding_all rfl) (by decide +kernel) (by kernel_rfl!) (by kernel_rfl!) (by rfl) (by rfl) (by rfl) ?_)
  k_with "mdefC2" => (refine' CodC.def2 _ _ (by k_extra "mK") (by k_extra "mK") (by assumption) (by intro _ _; with_unfolding_all rfl) (by decide +kernel) (by kernel_rfl!) (by kernel_rfl!) (by rfl) (by rfl) (by rfl) ?_)
  k_with "mdefC3" => (refine' CodC.def3 _ _ _ (by k_extra "mK") (by k_extra "mK") (by assumption) (by intro _ _ _; with_unfolding_all rfl) (by decide +kernel) (by kernel_rfl!) (by kernel_rfl!) (by rfl) (by rfl) (by rfl) ?_)
  trivial
structure WAt (σ : Store) (w dx n f : Addr) (near : List Int) (far : List (Int × Int)) : Prop where
  hw : σ w = some (.inst 184 dx)
  hd : σ dx = some (.sd [("near", .ref n), ("far", .ref f)])
  hn : σ n = some (.list (near.map V.int))
  hf : σ f = some (.list (far.map pv))
  nf : n ≠ f
theorem WAt.ne {σ : Store} {w dx n f : Addr} {near : List Int} {far : List (Int × Int)} (W : WAt σ w dx n f near far) : w ≠ dx ∧ w ≠ n ∧ w ≠ f ∧ dx ≠ n ∧ dx ≠ f := by
  obtain ⟨h1, h2, h3, h4, -⟩ := W
  refine ⟨?_, ?_, ?_, ?_, ?_⟩ <;> intro e <;> subst e
  · rw [h1] at h2; cases h2
  · rw [h1] at h3; cases h3
  · rw [h1] at h4; cases h4
  · rw [h2] at h3; cases h3
  · rw [h2] at h4; cases h4
theorem c_Waits (hK : C.K = KL C.w.params) {Q : V → Store → Prop} (hr : A.depth + 1 < recursionLimit) (hh : A.handled = none)
    (h : ∀ w dx n f σ', Grow σ σ' → σ w = none → σ dx = none → σ n = none → σ f = none → WAt σ' w dx n f [] [] → Q (.ref w) σ') : CallWP C A (.ref 184) [] σ Q X := by
  refine CallWP.cls (by k_extra "mK") (by k_extra "mK") (by k_extra "mK") fun w dx A1 hw hd hne h1 h2 h3 => ?_
  have hr1 : A1.depth < recursionLimit := by rw [h2]; exact hr
  k_extra "mdefC1"
  intro L A' a1 a2 a3
  have hh' : A'.handled = none := (a1.trans h1).trans hh
  have hne' : dx ≠ w := Ne.symm hne
  repeat k_extra "m"
  intro n hn
  obtain ⟨q1, hn0⟩ := Store.none_ne hn
  obtain ⟨q2, hn0⟩ := Store.none_ne hn0
  repeat k_extra "m"
  intro f hf
  obtain ⟨q3, hf0⟩ := Store.none_ne hf
  obtain ⟨q4, hf0⟩ := Store.none_ne hf0
  obtain ⟨q5, hf0⟩ := Store.none_ne hf0
  obtain ⟨q6, hf0⟩ := Store.none_ne hf0
  repeat k_extra "m"
  refine h w dx n f _ ?_ hw hd hn0 hf0 ⟨?_, ?_, ?_, ?_, Ne.symm q4⟩
  · exact (((((Grow.rfl'.upd hd).upd hw).upd hn0).upd hd).upd hf0).upd hd
  · k_extra "mst"
  · k_extra "mst"
  · simp only [List.map_nil]; k_extra "mst"
  · simp only [List.map_nil]; k_extra "mst"
theorem c_later (hK : C.K = KL C.w.params) {w dx n f : Addr} {near : List Int} {far : List (Int × Int)} {x d : Int} {Q : V → Store → Prop} (hr : A.depth < recursionLimit) (hh : A.handled = none) (W : WAt σ w dx n f near far) (hz : far.length ≤ 10000)
    (h : Q .none (σ.upd f (.list ((far ++ [(d, x)]).map pv)))) : CallWP C A (.ref 164) [.ref w, .int x, .int d] σ Q X := by
  obtain ⟨hw, hd, hn, hf, nf⟩ := W
  k_extra "mdef3"
  intro L A' a1 a2 a3
  have hh' : A'.handled = none := a1.trans hh
  repeat k_extra "m"
  show Q V.none _
  simpa [pv] using h
theorem c_lineup (hK : C.K = KL C.w.params) {w dx n f : Addr} {near : List Int} {far : List (Int × Int)} {Q : V → Store → Prop} (hr : A.depth < recursionLimit) (hh : A.handled = none) (W : WAt σ w dx n f near far) (hz : near.length ≤ 10000) (h64 : far.length < 2)
    (h : ∀ (a : Addr) (σ' : Store) (ps : List (Int × Int)), Grow σ σ' → σ a = none → ps.Perm far → ps.Pairwise (fun p q => lexlt q p = false) → σ' a = some (.list ((near ++ ps.map (·.2)).map V.int)) → Q (.ref a) σ') : CallWP C A (.ref 169) [.ref w] σ Q X := by
  obtain ⟨hw, hd, hn, hf, nf⟩ := W
  k_extra "mdef1"
  intro L A' a1 a2 a3
  have hh' : A'.handled = none := a1.trans hh
  repeat k_extra "m"
  refine CallWP.sortedPairs (.inl hf) h64 fun s ps hs hp ho => ?_
  have hpl := hp.length_eq
  refine ⟨_, _, ItV.list hh' (.inl Store.hit), fun L' => ?_⟩
  refine CmpL.pure (fun _ => true) (fun y => match y with | .tup [_, b] => b | _ => .none) (.inl Store.hit) _ _ ?_ ?_ (by simp [sizeLine_eq]; (first | lia | omega)) ?_
  · intro y hy Q hQ
    repeat k_extra "m"
    exact hQ
  · intro y hy _ Q hQ
    obtain ⟨p, hp, rfl⟩ := List.mem_map.mp hy
    simp only [pv]
    repeat k_extra "m"
    exact hQ
  · intro c hc
    obtain ⟨q1, hc0⟩ := Store.none_ne hc
    have e : ([] : List V) ++ List.map (fun y => match y with | .tup [_, b] => b | _ => .none) (List.filter (fun _ => true) (ps.map pv)) = (ps.map (·.2)).map V.int := by
      rw [List.nil_append, List.filter_eq_self.mpr (fun _ _ => rfl), List.map_map, List.map_map]; rfl
    rw [e]
    refine BinWP.cat (.inl (by k_extra "mst")) (.inl Store.hit) (by simp [sizeLine_eq]; (first | lia | omega)) fun a ha => ?_
    obtain ⟨q2, ha0⟩ := Store.none_ne ha
    obtain ⟨q3, ha0⟩ := Store.none_ne ha0
    refine h a _ ps (((Grow.rfl'.upd hs).upd hc0).upd ha0) ha0 hp ho ?_
    rw [Store.hit]; simp
theorem eraseIdx_map' {α β : Type} (f : α → β) : ∀ (l : List α) (i : Nat), (l.map f).eraseIdx i = (l.eraseIdx i).map f
  | [], _ => rfl
  | _ :: _, 0 => rfl
  | a :: l, i + 1 => by simp [eraseIdx_map' f l i]
theorem idx_pairs (p : Int × Int) : ∀ (l : List (Int × Int)), p ∈ l → (l.map fun q : Int × Int => PyData.tuple [.int q.1, .int q.2]).findIdx? (fun y => PyData.eqv y (.tuple [.int p.1, .int p.2])) = some (l.idxOf p)
  | q :: l, h => by
    rw [List.map_cons, List.findIdx?_cons, List.idxOf_cons]
    have e : PyData.eqv (.tuple [.int q.1, .int q.2]) (.tuple [.int p.1, .int p.2]) = (q == p) := by
      rw [Bool.eq_iff_iff]
      simp [PyData.eqv, PyData.eqvAll, Prod.ext_iff]
    rw [e]
    cases z : q == p with
    | true => rfl
    | false =>
      have : p ∈ l := by
        rcases List.mem_cons.mp h with w | w
        · rw [w] at z; simp at z
        · exact w
      simp [idx_pairs p l this]
theorem c_lead (hK : C.K = KL C.w.params) {w dx n f : Addr} {near : List Int} {far : List (Int × Int)} {Q : V → Store → Prop} (hr : A.depth < recursionLimit) (hh : A.handled = none) (hu : A.units < 9000) (hnear : near = []) (W : WAt σ w dx n f near far) (hz : near.length ≤ 10000) (hz2 : far.length < 2)
    (h1 : ∀ x r, near = x :: r → Q (.tup [.int x, .none]) (σ.upd n (.list (r.map V.int)))) (h2 : near = [] → far = [] → Q .none σ)
    (h3 : near = [] → ∀ p, p ∈ far → (∀ q ∈ far, lexlt q p = false) → Q (.tup [.int p.2, .int p.1]) (σ.upd f (.list ((far.erase p).map pv)))) : CallWP C A (.ref 176) [.ref w] σ Q X := by
  obtain ⟨hw, hd, hn, hf, nf⟩ := W
  k_extra "mdef1"
  intro L A' a1 a2 a3
  have hh' : A'.handled = none := a1.trans hh
  repeat k_extra "m"
  cases near with
  | cons x r => cases hnear
  | nil =>
    refine Br.f (by simp) ?_
    repeat k_extra "m"
    cases far with
    | nil =>
      refine Br.t (by simp) ?_
      repeat k_extra "m"
      exact h2 rfl rfl
    | cons p0 r =>
      refine Br.f (by simp) ?_
      repeat k_extra "m"
      refine CallWP.minPairs hh' (by rw [a3]; simp only [cLine]; (first | lia | omega)) (.inl hf) (by simp) hz2 fun p hp hmin => ?_
      repeat k_extra "m"
      have hidx := idx_pairs p (p0 :: r) hp
      refine CallWP.remove (d := .tuple [.int p.1, .int p.2]) hf (.tup (.cons (.int _) (.cons (.int _) .nil))) (DRs.map (g := fun q : Int × Int => PyData.tuple [.int q.1, .int q.2]) fun q _ => .tup (.cons (.int _) (.cons (.int _) .nil))) (by simp [PyData.canLay0, PyData.canLayAll0]) (canLayAll_map fun q _ => by simp [PyData.canLay0, PyData.canLayAll0])
        (by rw [a3]; simp only [PyData.depth, PyData.depthAll, cLine]; (first | lia | omega)) (by rw [List.length_map, sizeLine_eq]; (first | lia | omega)) hidx ?_
      simp only [pv]
      repeat k_extra "m"
      have e : List.eraseIdx ((p0 :: r).map pv) ((p0 :: r).idxOf p) = ((p0 :: r).erase p).map pv := by
        rw [List.erase_eq_eraseIdx_of_idxOf rfl, eraseIdx_map']
      rw [e]
      exact h3 rfl p hp hmin
structure Hd where
  name : Str
  rank : Int
  hears : Str
  once : Bool
  deeds : V
def hv (h : Hd) : V := .tup [.str h.name, .int h.rank, .str h.hears, .bool h.once, h.deeds]
def hdOf (hs : List Hd) (n : Str) : Option Hd := hs.find? fun h => h.name == n
def rk (hs : List Hd) (n : Str) : Int := ((hdOf hs n).map (·.rank)).getD 0
def hrs (hs : List Hd) (n : Str) : Str := ((hdOf hs n).map (·.hears)).getD Str.empty
def foundF (hs : List Hd) (ns : List Str) (w : Str) : List Str := ns.filter fun n => (hrs hs n == Str.ofString "") || (hrs hs n == w)
def Heard (hs : List Hd) (ns : List Str) (w : Str) (out : List Str) : Prop := ∃ p : List Nat, p.Perm (List.range (foundF hs ns w).length) ∧ p.Pairwise (slt fun i j => decide (rk hs ((foundF hs ns w).getD i Str.empty) < rk hs ((foundF hs ns w).getD j Str.empty))) ∧ out = p.map fun i => (foundF hs ns w).getD i Str.empty
theorem hdOf_mem : ∀ {hs : List Hd} {h : Hd}, (hs.map (·.name)).Nodup → h ∈ hs → hdOf hs h.name = some h
  | k :: hs, h, nd, hm => by
    simp only [List.map_cons, List.nodup_cons] at nd
    unfold hdOf
    rcases List.mem_cons.mp hm with rfl | hm
    · simp
    · have : (k.name == h.name) = false := by
        rw [beq_eq_false_iff_ne]; exact fun e => nd.1 (by rw [e]; exact List.mem_map_of_mem hm)
      rw [List.find?_cons, this]
      exact hdOf_mem nd.2 hm
theorem hd_sget : ∀ {hs : List Hd} {n : Str}, n ∈ hs.map (·.name) → ∃ h, h ∈ hs ∧ h.name = n ∧ hdOf hs n = some h ∧ sget (hs.map fun h => (h.name, hv h)) n = some (hv h)
  | k :: hs, n, hm => by
    by_cases q : k.name = n
    · exact ⟨k, .head _, q, by simp [hdOf, q], by simp [sget, q]⟩
    · rw [List.map_cons] at hm
      rcases List.mem_cons.mp hm with e | hm
      · exact absurd e.symm q
      · obtain ⟨h, h1, h2, h3, h4⟩ := hd_sget hm
        have q' : (k.name == n) = false := beq_eq_false_iff_ne.mpr q
        refine ⟨h, .tail _ h1, h2, by unfold hdOf; rw [List.find?_cons, q']; exact h3, ?_⟩
        unfold sget at h4 ⊢
        simp only [List.map_cons, List.find?_cons, q, decide_false]
        exact h4
theorem sput_new : ∀ {hs : List Hd} {h : Hd}, h.name ∉ hs.map (·.name) → sput (hs.map fun h => (h.name, hv h)) h.name (hv h) = (hs ++ [h]).map fun h => (h.name, hv h)
  | [], h, _ => rfl
  | k :: hs, h, hn => by
    simp only [List.map_cons, List.mem_cons, not_or] at hn
    simp only [List.map_cons, List.cons_append, sput, hn.1, if_false]
    exact congrArg _ (sput_new hn.2)
theorem beq_swap (a b : Str) : (a == b) = (b == a) := by
  rw [Bool.eq_iff_iff]; simp only [beq_iff_eq]; exact ⟨Eq.symm, Eq.symm⟩
theorem CmpWP.inT2 {x a b : Str} {Q : V → Store → Prop} (hu : A.units < 9000) (hx : PyData.strOk x = true) (ha : PyData.strOk a = true) (hb : PyData.strOk b = true) (h : Q (.bool ((a == x) || (b == x))) σ) : CmpWP C A .In (.str x) (.tup [.str a, .str b]) σ Q X := by
  refine CmpWP.inT (d := .str x) (ds := [.str a, .str b]) (.str _) (.cons (.str _) (.cons (.str _) .nil)) (by simpa [PyData.canLay0] using hx) (by simp [PyData.canLayAll0, PyData.canLay0, ha, hb]) (by simp only [PyData.depthAll, PyData.depth, cLine]; (first | lia | omega)) ?_
  have e : ([PyData.str a, PyData.str b].any fun y => PyData.eqv y (.str x)) = ((a == x) || (b == x)) := by simp [PyData.eqv]
  rw [e]; exact h
theorem c_hearers (hK : C.K = KL C.w.params) (hB : BMod C) (Cd : CodeHd C.h₀ 135 133) {hl nl : Addr} {hs : List Hd} {ns : List Str} {w : Str} {Q : V → Store → Prop} (hr : A.depth + 1 < recursionLimit) (hh : A.handled = none) (hu : A.units < 8000)
    (hP : σ 133 = some (.tab ⟨82, 29, 82, 58⟩ (Str.ofString "hearers" ++ Str.ofString ".<locals>." ++ Str.ofString "<lambda>"))) (h1 : σ hl = some (.list (hs.map hv))) (h2 : σ nl = some (.list (ns.map V.str))) (nd : (hs.map (·.name)).Nodup) (hsub : ∀ n ∈ ns, n ∈ hs.map (·.name)) (hz : hs.length ≤ 60) (hz2 : ns.length < 64)
    (hok : ∀ h ∈ hs, PyData.strOk h.hears = true) (hw : PyData.strOk w = true)
    (h : ∀ (a : Addr) (σ' : Store) (out : List Str), Grow σ σ' → σ a = none → Heard hs ns w out → σ' a = some (.list (out.map V.str)) → Q (.ref a) σ') : CallWP C A (.ref 136) [.ref hl, .ref nl, .str w] σ Q X := by
  have hr0 : A.depth < recursionLimit := by (first | lia | omega)
  k_extra "mdef3"
  intro L A' a1 a2 a3
  have hh' : A'.handled = none := a1.trans hh
  have hr' : A'.depth < recursionLimit := by rw [a2]; exact hr
  have hu' : A'.units < 9000 := by rw [a3]; (first | lia | omega)
  repeat k_extra "m"
  refine Ev.dict0 fun d hd => ?_
  repeat k_extra "m"
  refine ⟨_, _, ItV.list hh' (.inl (Store.at_fresh hd h1)), ?_⟩
  refine ForL.inv hv (fun rest ρ σ1 => ∃ done, done ++ rest = hs ∧ Grow σ σ1 ∧ σ1 d = some (.sd (done.map fun h => (h.name, hv h))) ∧ ρ.get "by_name" = some (.ref d) ∧ ρ.get "names" = some (.ref nl) ∧ ρ.get "word" = some (.str w)) ?_ ?_ _ _ _ ⟨[], rfl, Grow.rfl'.upd hd, Store.hit, by k_extra "mget", by k_extra "mget", by k_extra "mget"⟩
  · rintro x rest ρ σ1 ⟨done, e, g, gd, r1, r2, r3⟩
    have hnew : x.name ∉ done.map (·.name) := by
      rw [← e, List.map_append, List.nodup_append] at nd
      exact fun hm => nd.2.2 _ hm _ (by simp) rfl
    have hlen : done.length ≤ 60 := by rw [← e] at hz; simp at hz; (first | lia | omega)
    simp only [hv]
    repeat k_extra "m"
    refine SetWP.sd gd (by simp only [List.length_map, sizeLine_eq]; (first | lia | omega)) ?_
    have e2 := sput_new hnew
    simp only [hv] at e2 ⊢
    rw [e2]
    repeat k_extra "m"
    refine ⟨.inl ?_, done ++ [x], by rw [← e]; simp, g.upd hd, Store.hit, by k_extra "mget", by k_extra "mget", by k_extra "mget"⟩
    exact (g.upd hd) _ _ h1
  rintro ρ σ1 ⟨done, e, g, gd, r1, r2, r3⟩
  rw [List.append_nil] at e
  subst e
  have h2' := g _ _ h2
  repeat k_extra "m"
  refine ⟨_, _, ItV.list hh' (.inl h2'), fun L' => ?_⟩
  have look : ∀ n ∈ ns, ∃ x, x ∈ done ∧ hdOf done n = some x ∧ sget (done.map fun h => (h.name, hv h)) n = some (.tup [.str x.name, .int x.rank, .str x.hears, .bool x.once, x.deeds]) := fun n hn => by
    obtain ⟨x, x1, x2, x3, x4⟩ := hd_sget (hsub n hn)
    exact ⟨x, x1, x3, x4⟩
  refine CmpL.pure (fun y => match y with | .str n => (hrs done n == Str.ofString "") || (hrs done n == w) | _ => false) id (.inl h2') _ _ ?_ ?_ (by simp [sizeLine_eq]; (first | lia | omega)) ?_
  · intro y hy Q hQ
    obtain ⟨n, hn, rfl⟩ := List.mem_map.mp hy
    obtain ⟨x, x1, x3, x4⟩ := look n hn
    repeat k_extra "m"
    refine CmpWP.inT2 hu' (hok x x1) (strOk_ofString _) hw ?_
    repeat k_extra "m"
    have e3 : hrs done n = x.hears := by unfold hrs; rw [x3]; rfl
    have e4 : ((Str.ofString "" == x.hears) || (w == x.hears)) = ((hrs done n == Str.ofString "") || (hrs done n == w)) := by
      rw [e3, beq_swap (Str.ofString "") x.hears, beq_swap w x.hears]
    rw [e4]; exact hQ
  · intro y hy _ Q hQ
    repeat k_extra "m"
    exact hQ
  intro fa hfa
  have ef : ([] : List V) ++ List.map id (List.filter (fun y => match y with | .str n => (hrs done n == Str.ofString "") || (hrs done n == w) | _ => false) (ns.map V.str)) = (foundF done ns w).map V.str := by
    rw [List.nil_append, List.map_id, List.filter_map]; rfl
  rw [ef]
  repeat k_extra "m"
  refine Ev.sortLam Cd hB hr' (by decide +kernel) (by k_extra "mK") (by k_extra "mcapt") rfl (fun _ _ _ _ _ => rfl) rfl rfl rfl (by decide +kernel) (by decide +kernel) (by kernel_rfl) (by kernel_rfl) (by kernel_rfl) ?_
  repeat k_extra "m"
  have hfl : (foundF done ns w).length ≤ ns.length := List.length_filter_le ..
  refine ⟨fa, _, (fun v => match v with | .str n => rk done n | _ => 0), rfl, .inl Store.hit, by simp; (first | lia | omega), Store.at_fresh hfa (g _ _ hP), ?_, ?_⟩
  · intro x hx L2 f2 cdv A2 b1 b2
    have hh2 : A2.handled = none := b1.trans hh'
    obtain ⟨n, hn, rfl⟩ := List.mem_map.mp hx
    obtain ⟨x, x1, x3, x4⟩ := look n (List.mem_filter.mp hn).1
    repeat k_extra "m"
    exact ⟨rfl, by simp [rk, x3]⟩
  · intro a p ha hp hs
    obtain ⟨q1, ha0⟩ := Store.none_ne ha
    have e5 : ∀ i, ((foundF done ns w).map V.str).getD i V.none = if i < (foundF done ns w).length then V.str ((foundF done ns w).getD i Str.empty) else V.none := fun i => by
      split
      · rename_i hi; simp [hi]
      · rename_i hi; simp [Nat.le_of_not_lt hi]
    have hb : ∀ i ∈ p, i < (foundF done ns w).length := fun i hi => by simpa using hp.mem_iff.mp hi
    refine h a _ (p.map fun i => (foundF done ns w).getD i Str.empty) ((g.upd (g.none hfa)).upd (g.none ha0)) (g.none ha0) ⟨p, by simpa using hp, ?_, rfl⟩ ?_
    · refine hs.imp_of_mem fun {i j} hi hj z => ?_
      unfold slt at z ⊢
      dsimp only at z ⊢
      rw [e5, e5, if_pos (hb i hi), if_pos (hb j hj)] at z
      exact z
    · rw [Store.hit, List.map_map]
      congr 2
      refine List.map_congr_left fun i hi => ?_
      rw [e5, if_pos (hb i hi)]; rfl

/- the loom, as data -/
inductive Deed where
  | now (w : Str) | soon (w : Str) | wait (t : Int) (w : Str) | cancel (w : Str) | join (n : Str) | leave (n : Str) | hush
def Deed.v : Deed → V
  | .now w => .tup [.str (Str.ofString "now"), .str w]
  | .soon w => .tup [.str (Str.ofString "soon"), .str w]
  | .wait t w => .tup [.str (Str.ofString "wait"), .int t, .str w]
  | .cancel w => .tup [.str (Str.ofString "cancel"), .str w]
  | .join n => .tup [.str (Str.ofString "join"), .str n]
  | .leave n => .tup [.str (Str.ofString "leave"), .str n]
  | .hush => .tup [.str (Str.ofString "hush")]
structure Hn where
  name : Str
  rank : Int
  hears : Str
  once : Bool
  ds : List Deed
def Hn.hd (h : Hn) : Hd := ⟨h.name, h.rank, h.hears, h.once, .tup (h.ds.map Deed.v)⟩
def optV : Option Int → V
  | none => .none
  | some n => .int n
structure Evt where
  word : Str
  maker : Option Int
  road : Str
  due : Int
def Evt.v (e : Evt) : V := .tup [.str e.word, optV e.maker, .str e.road, .int e.due]
inductive Row where
  | send (n : Int) | beg (n t : Int) | fin (n : Int) | call (n : Int) (h : Str) | cancel (n : Int) (ns : List Int) | join (n : Int) (h : Str) | leave (n : Int) (h : Str) | hush (n : Int) | make (m n : Int)
def Row.v : Row → V
  | .send n => .tup [.str (Str.ofString "send"), .int n]
  | .beg n t => .tup [.str (Str.ofString "begin"), .int n, .int t]
  | .fin n => .tup [.str (Str.ofString "end"), .int n]
  | .call n h => .tup [.str (Str.ofString "call"), .int n, .str h]
  | .cancel n ns => .tup [.str (Str.ofString "cancel"), .int n, .tup (ns.map V.int)]
  | .join n h => .tup [.str (Str.ofString "join"), .int n, .str h]
  | .leave n h => .tup [.str (Str.ofString "leave"), .int n, .str h]
  | .hush n => .tup [.str (Str.ofString "hush"), .int n]
  | .make m n => .tup [.str (Str.ofString "make"), .int m, .int n]
structure Frm where
  num : Int
  calls : List Str
  deeds : List Deed
/-- the innermost frame is the first -/
structure LS where
  posts : List Str
  time : Int
  events : List Evt
  log : List Row
  near : List Int
  far : List (Int × Int)
  frames : List Frm
  fresh : Option Int
/-- where the loom's objects lie -/
structure LA where
  lo : Addr
  d : Addr
  ca : Addr
  po : Addr
  ev : Addr
  lg : Addr
  wa : Addr
  wd : Addr
  ne : Addr
  fa : Addr
  fr : Addr
structure FA where
  f : Addr
  d : Addr
  c : Addr
  e : Addr
abbrev lamQ : Str := Str.ofString "hearers" ++ Str.ofString ".<locals>." ++ Str.ofString "<lambda>"
abbrev tabE : Addr × O := (133, .tab ⟨82, 29, 82, 58⟩ lamQ)
def fpF : List FA → List Frm → List (Addr × O)
  | f :: fs, r :: rs => (f.f, .inst 205 f.d) :: (f.d, .sd [("number", .int r.num), ("calls", .ref f.c), ("deeds", .ref f.e)]) :: (f.c, .list (r.calls.map V.str)) :: (f.e, .list (r.deeds.map Deed.v)) :: fpF fs rs
  | _, _ => []
/-- the loom's objects -/
def fp (a : LA) (fs : List FA) (cast : List Hn) (s : LS) : List (Addr × O) :=
  (a.lo, .inst 313 a.d) ::
  (a.d, .sd [("cast", .ref a.ca), ("posts", .ref a.po), ("time", .int s.time), ("events", .ref a.ev), ("log", .ref a.lg), ("waits", .ref a.wa), ("frames", .ref a.fr), ("fresh", optV s.fresh)]) ::
  (a.ca, .list ((cast.map Hn.hd).map hv)) ::
  (a.po, .list (s.posts.map V.str)) ::
  (a.ev, .list (s.events.map Evt.v)) ::
  (a.lg, .list (s.log.map Row.v)) ::
  (a.wa, .inst 184 a.wd) ::
  (a.wd, .sd [("near", .ref a.ne), ("far", .ref a.fa)]) ::
  (a.ne, .list (s.near.map V.int)) ::
  (a.fa, .list (s.far.map pv)) ::
  (a.fr, .list ((fs.map fun f => V.ref f.f).reverse)) ::
  fpF fs s.frames
/-- the loom stands at a, with its frames at fs; beside it stand the tables of codes and what the caller has -/
structure LAt (σ : Store) (a : LA) (fs : List FA) (cast : List Hn) (s : LS) (rest : List (Addr × O)) : Prop where
  led : Led σ (tabE :: (fp a fs cast s ++ rest))
  len : fs.length = s.frames.length
section
variable {a : LA} {fs : List FA} {cast : List Hn} {s : LS} {rest : List (Addr × O)}
theorem LAt.wat (L : LAt σ a fs cast s rest) : WAt σ a.wa a.wd a.ne a.fa s.near s.far :=
  ⟨L.led.get 7 rfl, L.led.get 8 rfl, L.led.get 9 rfl, L.led.get 10 rfl, L.led.ne 9 10 rfl rfl (by decide)⟩
theorem LAt.grow {σ' : Store} (L : LAt σ a fs cast s rest) (g : Grow σ σ') : LAt σ' a fs cast s rest := ⟨L.led.grow g, L.len⟩
theorem LAt.log (L : LAt σ a fs cast s rest) (r : Row) : LAt (σ.upd a.lg (.list ((s.log ++ [r]).map Row.v))) a fs cast { s with log := s.log ++ [r] } rest := ⟨L.led.set 6 _ rfl, L.len⟩
theorem LAt.events (L : LAt σ a fs cast s rest) (e : Evt) : LAt (σ.upd a.ev (.list ((s.events ++ [e]).map Evt.v))) a fs cast { s with events := s.events ++ [e] } rest := ⟨L.led.set 5 _ rfl, L.len⟩
theorem LAt.posts (L : LAt σ a fs cast s rest) (ps : List Str) : LAt (σ.upd a.po (.list (ps.map V.str))) a fs cast { s with posts := ps } rest := ⟨L.led.set 4 _ rfl, L.len⟩
theorem LAt.near (L : LAt σ a fs cast s rest) (ns : List Int) : LAt (σ.upd a.ne (.list (ns.map V.int))) a fs cast { s with near := ns } rest := ⟨L.led.set 9 _ rfl, L.len⟩
theorem LAt.far (L : LAt σ a fs cast s rest) (ps : List (Int × Int)) : LAt (σ.upd a.fa (.list (ps.map pv))) a fs cast { s with far := ps } rest := ⟨L.led.set 10 _ rfl, L.len⟩
theorem LAt.time (L : LAt σ a fs cast s rest) (t : Int) : LAt (σ.upd a.d (.sd [("cast", .ref a.ca), ("posts", .ref a.po), ("time", .int t), ("events", .ref a.ev), ("log", .ref a.lg), ("waits", .ref a.wa), ("frames", .ref a.fr), ("fresh", optV s.fresh)])) a fs cast { s with time := t } rest := ⟨L.led.set 2 _ rfl, L.len⟩
theorem LAt.fresh (L : LAt σ a fs cast s rest) (f : Option Int) : LAt (σ.upd a.d (.sd [("cast", .ref a.ca), ("posts", .ref a.po), ("time", .int s.time), ("events", .ref a.ev), ("log", .ref a.lg), ("waits", .ref a.wa), ("frames", .ref a.fr), ("fresh", optV f)])) a fs cast { s with fresh := f } rest := ⟨L.led.set 2 _ rfl, L.len⟩
end

theorem c_whole (hK : C.K = KL C.w.params) {x : V} {t : Ty} {Q : V → Store → Prop} (hr : A.depth < recursionLimit) (ht : HasTy C σ x t) (h : Q (.bool (isiB t "int" && !isiB t "bool")) σ) : CallWP C A (.ref 94) [x] σ Q X := by
  k_extra "mdef1"
  intro L A' a1 a2 a3
  repeat k_extra "m"
  refine isi_t ht (by decide) rfl ?_
  k_extra "m"
  cases q : isiB t "int" with
  | false =>
    rw [q] at h
    repeat k_extra "m"
    exact h
  | true =>
    rw [q] at h
    repeat k_extra "m"
    refine isi_t ht (by decide) rfl ?_
    repeat k_extra "m"
    exact h
def okS (x : Str) : Bool := (x.cps.toList.map fun c => inS (Str.ofString "abcdefghijklmnopqrstuvwxyz") ⟨#[c]⟩).all id
def isW (x : Str) : Bool := (decide (1 ≤ x.length) && decide (x.length ≤ 12)) && okS x
def inAbc : V → V
  | .str c => .bool (inS (Str.ofString "abcdefghijklmnopqrstuvwxyz") c)
  | _ => .none
theorem signs_map {x : Str} : ([] : List V) ++ List.map inAbc (List.filter (fun _ => true) (signsV x)) = (x.cps.toList.map fun c => inS (Str.ofString "abcdefghijklmnopqrstuvwxyz") ⟨#[c]⟩).map V.bool := by
  rw [List.nil_append, List.filter_eq_self.mpr (fun _ _ => rfl), signsV, List.map_map, List.map_map]; rfl
theorem c_isw (hK : C.K = KL C.w.params) {x : Str} {Q : V → Store → Prop} (hr : A.depth < recursionLimit) (hh : A.handled = none) (hz : x.length ≤ 1000) (h : ∀ σ', Grow σ σ' → Q (.bool (isW x)) σ') : CallWP C A (.ref 99) [.str x] σ Q X := by
  k_extra "mdef1"
  intro L A' a1 a2 a3
  have hh' : A'.handled = none := a1.trans hh
  repeat k_extra "m"
  refine CallWP.len_str (by (first | lia | omega)) ?_
  repeat k_extra "m"
  by_cases q1 : 1 ≤ x.length
  · refine Br.t (by simp; (first | lia | omega)) ?_
    repeat k_extra "m"
    by_cases q2 : x.length ≤ 12
    · have e : isW x = okS x := by simp [isW, q1, q2]
      rw [e] at h
      refine Br.f (by simp; (first | lia | omega)) ?_
      repeat k_extra "m"
      refine ⟨_, _, ItV.str hh', fun L' => ?_⟩
      refine CmpL.pure (fun _ => true) inAbc trivial _ _ ?_ ?_ (by simp [signsV, sizeLine_eq]; simp only [Str.length] at hz; (first | lia | omega)) ?_
      · intro y hy Q hQ
        repeat k_extra "m"
        exact hQ
      · intro y hy _ Q hQ
        obtain ⟨c, hc, rfl⟩ := List.mem_map.mp hy
        repeat k_extra "m"
        exact hQ
      intro a ha
      rw [signs_map]
      repeat k_extra "m"
      refine CallWP.all hh' (.inl Store.hit) ?_
      repeat k_extra "m"
      exact h _ (Grow.rfl'.fresh ha)
    · have e : isW x = false := by simp [isW, q2]
      rw [e] at h
      refine Br.t (by simp; (first | lia | omega)) ?_
      repeat k_extra "m"
      exact h _ Grow.rfl'
  · have e : isW x = false := by simp [isW, q1]
    rw [e] at h
    refine Br.f (by simp; (first | lia | omega)) ?_
    repeat k_extra "m"
    exact h _ Grow.rfl'
theorem c_need (hK : C.K = KL C.w.params) {x : Str} {Q : V → Store → Prop} (hr : A.depth + 1 < recursionLimit) (hh : A.handled = none) (hz : x.length ≤ 1000) (hx : isW x = true) (h : ∀ σ', Grow σ σ' → Q (.str x) σ') : CallWP C A (.ref 106) [.str x] σ Q X := by
  have hr1 : A.depth < recursionLimit := by (first | lia | omega)
  k_extra "mdef1"
  intro L A' a1 a2 a3
  have hh' : A'.handled = none := a1.trans hh
  have hr' : A'.depth < recursionLimit := by (first | lia | omega)
  repeat k_extra "m"
  refine c_isw hK hr' hh' hz fun σ' g => ?_
  rw [hx]
  repeat k_extra "m"
  exact h _ g

structure LS.Small (s : LS) : Prop where
  po : s.posts.length ≤ 60
  ev : s.events.length ≤ 9000
  lg : s.log.length ≤ 9000
  ne : s.near.length ≤ 9000
  fa : s.far.length ≤ 1
  fr : s.frames.length ≤ 9000
def LS.send (s : LS) (w : Str) : LS :=
  { s with events := s.events ++ [⟨w, none, Str.ofString "wait", s.time⟩], far := s.far ++ [(s.time, (s.events.length : Int))], log := s.log ++ [.send s.events.length] }
theorem c_send (hK : C.K = KL C.w.params) {a : LA} {fs : List FA} {cast : List Hn} {s : LS} {rest : List (Addr × O)} {w : Str} {Q : V → Store → Prop} (hr : A.depth + 2 < recursionLimit) (hh : A.handled = none) (L : LAt σ a fs cast s rest) (Z : s.Small) (hw : isW w = true) (hwl : w.length ≤ 1000)
    (h : ∀ σ', LAt σ' a fs cast (s.send w) rest → Q (.int s.events.length) σ') : CallWP C A (.ref 230) [.ref a.lo, .str w] σ Q X := by
  have hr0 : A.depth < recursionLimit := by (first | lia | omega)
  have g1 := L.led.get 1 rfl
  have g2 := L.led.get 2 rfl
  have g5 := L.led.get 5 rfl
  have z1 := Z.ev
  have z2 := Z.lg
  have z3 := Z.fa
  k_extra "mdef2"
  intro fL A' a1 a2 a3
  have hh' : A'.handled = none := a1.trans hh
  have hr' : A'.depth + 1 < recursionLimit := by (first | lia | omega)
  have hr2 : A'.depth < recursionLimit := by (first | lia | omega)
  repeat k_extra "m"
  refine c_need hK hr' hh' hwl hw fun σ1 gr => ?_
  have L1 := L.grow gr
  have g1 := L1.led.get 1 rfl
  have g2 := L1.led.get 2 rfl
  have g5 := L1.led.get 5 rfl
  repeat k_extra "m"
  generalize hσ : Store.upd σ1 a.ev _ = σ2
  have L2 : LAt σ2 a fs cast { s with events := s.events ++ [⟨w, none, Str.ofString "wait", s.time⟩] } rest := by
    rw [← hσ]; simpa [Evt.v, optV] using L1.events ⟨w, none, Str.ofString "wait", s.time⟩
  have g1 := L2.led.get 1 rfl
  have g2 := L2.led.get 2 rfl
  have g7 := L2.led.get 7 rfl
  have g8 := L2.led.get 8 rfl
  repeat k_extra "m"
  refine c_later hK hr2 hh' L2.wat (by simp; (first | lia | omega)) ?_
  have L3 := L2.far (s.far ++ [(s.time, ((s.events.map Evt.v).length : Int))])
  dsimp only
  generalize hσ3 : Store.upd σ2 a.fa _ = σ3 at L3 ⊢
  have g1 := L3.led.get 1 rfl
  have g2 := L3.led.get 2 rfl
  have g6 := L3.led.get 6 rfl
  dsimp only at g6
  repeat k_extra "m"
  show Q (V.int _) _
  rw [List.length_map]
  refine h _ ?_
  simpa [LS.send, Row.v] using L3.log (.send s.events.length)

theorem c_Frame (hK : C.K = KL C.w.params) {n : Int} {c : Addr} {Q : V → Store → Prop} (hr : A.depth + 1 < recursionLimit) (hh : A.handled = none)
    (h : ∀ f d e σ', Grow σ σ' → σ f = none → σ d = none → σ e = none → f ≠ d → f ≠ e → d ≠ e → σ' f = some (.inst 205 d) → σ' d = some (.sd [("number", .int n), ("calls", .ref c), ("deeds", .ref e)]) → σ' e = some (.list []) → Q (.ref f) σ') : CallWP C A (.ref 205) [.int n, .ref c] σ Q X := by
  refine CallWP.cls (by k_extra "mK") (by k_extra "mK") (by k_extra "mK") fun w dx A1 hw hd hne h1 h2 h3 => ?_
  have hr1 : A1.depth < recursionLimit := by rw [h2]; exact hr
  k_extra "mdefC3"
  intro L A' a1 a2 a3
  have hh' : A'.handled = none := (a1.trans h1).trans hh
  have hne' : dx ≠ w := Ne.symm hne
  repeat k_extra "m"
  intro e he
  obtain ⟨q1, he0⟩ := Store.none_ne he
  obtain ⟨q2, he0⟩ := Store.none_ne he0
  obtain ⟨q3, he0⟩ := Store.none_ne he0
  obtain ⟨q4, he0⟩ := Store.none_ne he0
  repeat k_extra "m"
  refine h w dx e _ ?_ hw hd he0 hne (Ne.symm q3) (Ne.symm q1) ?_ ?_ ?_
  · exact (((((Grow.rfl'.upd hd).upd hw).upd hd).upd hd).upd he0).upd hd
  · k_extra "mst"
  · k_extra "mst"
  · k_extra "mst"
theorem LAt.push {a : LA} {fs : List FA} {cast : List Hn} {s : LS} {rest : List (Addr × O)} {f d c x : Addr} {n : Int} {out : List Str} (hl : fs.length = s.frames.length)
    (M : Led σ ((f, .inst 205 d) :: (d, .sd [("number", .int n), ("calls", .ref c), ("deeds", .ref x)]) :: (c, .list (out.map V.str)) :: (x, .list []) :: tabE :: (fp a fs cast s ++ rest))) :
    LAt (σ.upd a.fr (.list ((fs.map fun f => V.ref f.f).reverse ++ [.ref f]))) a (⟨f, d, c, x⟩ :: fs) cast { s with frames := ⟨n, out, []⟩ :: s.frames } rest := by
  refine ⟨?_, by simp [hl]⟩
  have M1 := M.set 15 (.list ((fs.map fun f => V.ref f.f).reverse ++ [.ref f])) rfl
  refine M1.perm ?_
  unfold fp
  simp only [List.map_cons, List.reverse_cons]
  exact List.perm_append_comm_assoc [_, _, _, _, _, _, _, _, _, _, _, _] [_, _, _, _] (fpF fs s.frames ++ rest)
/-- what the walks of the loom lean on -/
structure LC (C : Cx) : Prop where
  hK : C.K = KL C.w.params
  hB : BMod C
  cd : CodeHd C.h₀ 135 133
/-- a cast that stands well -/
structure COk (cast : List Hn) : Prop where
  nd : (cast.map (·.name)).Nodup
  len : cast.length ≤ 60
  hears : ∀ h ∈ cast, PyData.strOk h.hears = true
  name : ∀ h ∈ cast, PyData.strOk h.name = true
  once : ∀ h ∈ cast, h.once = false
theorem COk.nd' {cast : List Hn} (K : COk cast) : ((cast.map Hn.hd).map (·.name)).Nodup := by
  have e : (cast.map Hn.hd).map (·.name) = cast.map (·.name) := by rw [List.map_map]; rfl
  rw [e]; exact K.nd
def LS.begin (s : LS) (n : Int) (out : List Str) : LS := { s with frames := ⟨n, out, []⟩ :: s.frames, log := s.log ++ [.beg n s.time] }
theorem c_begin (E : LC C) {a : LA} {fs : List FA} {cast : List Hn} {s : LS} {rest : List (Addr × O)} {i : Nat} {e : Evt} {Q : V → Store → Prop} (hr : A.depth + 2 < recursionLimit) (hh : A.handled = none) (hu : A.units < 7000) (L : LAt σ a fs cast s rest) (Z : s.Small) (K : COk cast)
    (hsub : ∀ n ∈ s.posts, n ∈ cast.map (·.name)) (hi : s.events[i]? = some e) (hw : PyData.strOk e.word = true)
    (h : ∀ out f σ', Heard (cast.map Hn.hd) s.posts e.word out → LAt σ' a (f :: fs) cast (s.begin i out) rest → Q .none σ') : CallWP C A (.ref 244) [.ref a.lo, .int i] σ Q X := by
  have hK := E.hK
  have hr0 : A.depth < recursionLimit := by (first | lia | omega)
  have g1 := L.led.get 1 rfl
  have g2 := L.led.get 2 rfl
  have g5 := L.led.get 5 rfl
  have z1 := Z.ev
  have hil : i < s.events.length := (List.getElem?_eq_some_iff.mp hi).1
  k_extra "mdef2"
  intro fL A' a1 a2 a3
  have hh' : A'.handled = none := a1.trans hh
  have hr' : A'.depth + 1 < recursionLimit := by (first | lia | omega)
  have hr2 : A'.depth < recursionLimit := by (first | lia | omega)
  repeat k_extra "m"
  refine ItemWP.list (y := Evt.v e) (.inl g5) (by (first | lia | omega)) (by (first | lia | omega)) (by simp [hi]) ?_
  simp only [Evt.v]
  repeat k_extra "m"
  refine c_hearers hK E.hB E.cd hr' hh' (by (first | lia | omega)) (L.led.get 0 rfl) (L.led.get 3 rfl) (L.led.get 4 rfl) K.nd' (fun n hn => by rw [List.map_map]; exact hsub n hn) (by simpa using K.len) (by have := Z.po; (first | lia | omega)) (fun x hx => by obtain ⟨y, hy, rfl⟩ := List.mem_map.mp hx; exact K.hears y hy) hw fun c σ1 out gr hc hH hcl => ?_
  have M1 := L.led.add gr hc hcl
  have g1 := M1.get 2 rfl
  have g2 := M1.get 3 rfl
  have g11 := M1.get 12 rfl
  repeat k_extra "m"
  refine c_Frame hK hr' hh' fun f d x σ2 gr2 hf hd hx n1 n2 n3 s1 s2 s3 => ?_
  have M2 : Led σ2 ((f, .inst 205 d) :: (d, .sd [("number", .int i), ("calls", .ref c), ("deeds", .ref x)]) :: (c, .list (out.map V.str)) :: (x, .list []) :: tabE :: (fp a fs cast s ++ rest)) := by
    refine (Led.perm (l := (f, .inst 205 d) :: (d, .sd [("number", .int i), ("calls", .ref c), ("deeds", .ref x)]) :: (x, .list []) :: (c, .list (out.map V.str)) :: tabE :: (fp a fs cast s ++ rest)) ?_ ((((List.Perm.swap _ _ _).cons _).cons _)))
    exact M1.add3 gr2 hf hd hx n1 n2 n3 s1 s2 s3
  have z2 := Z.fr
  have z3 := L.len
  have g11 := M2.get 15 rfl
  repeat k_extra "m"
  have L3 := LAt.push L.len M2
  generalize hσ3 : Store.upd σ2 a.fr _ = σ3 at L3 ⊢
  have g1 := L3.led.get 1 rfl
  have g2 := L3.led.get 2 rfl
  have g6 := L3.led.get 6 rfl
  have z4 := Z.lg
  dsimp only at g6 g2
  repeat k_extra "m"
  show Q V.none _
  refine h out ⟨f, d, c, x⟩ _ hH ?_
  simpa [LS.begin, Row.v] using L3.log (.beg i s.time)

def LS.make (s : LS) (m : Int) : Deed → LS
  | .now w => { s with events := s.events ++ [⟨w, some m, Str.ofString "now", s.time⟩], fresh := some (s.events.length : Int), log := s.log ++ [.make m s.events.length] }
  | .soon w => { s with events := s.events ++ [⟨w, some m, Str.ofString "soon", s.time⟩], near := s.near ++ [(s.events.length : Int)], log := s.log ++ [.make m s.events.length] }
  | .wait t w => { s with events := s.events ++ [⟨w, some m, Str.ofString "wait", s.time + t⟩], far := s.far ++ [(s.time + t, (s.events.length : Int))], log := s.log ++ [.make m s.events.length] }
  | _ => s
theorem fpF_append {f : FA} {r : Frm} : ∀ {fs1 fs2 : List FA} {fr1 fr2 : List Frm}, fs1.length = fr1.length → fpF (fs1 ++ f :: fs2) (fr1 ++ r :: fr2) = fpF fs1 fr1 ++ fpF (f :: fs2) (r :: fr2)
  | [], _, [], _, _ => rfl
  | g :: fs1, fs2, q :: fr1, fr2, h => by
    show _ :: _ :: _ :: _ :: fpF (fs1 ++ f :: fs2) (fr1 ++ r :: fr2) = _
    rw [fpF_append (by simpa using h)]
    rfl
theorem LAt.split {a : LA} {fs1 fs2 : List FA} {f : FA} {cast : List Hn} {s : LS} {fr1 fr2 : List Frm} {r : Frm} {rest : List (Addr × O)} (hl : fs1.length = fr1.length) (hf : s.frames = fr1 ++ r :: fr2) :
    tabE :: (fp a (fs1 ++ f :: fs2) cast s ++ rest) = (tabE :: (fp a (fs1 ++ f :: fs2) cast { s with frames := [] } ++ fpF fs1 fr1)) ++ (fpF (f :: fs2) (r :: fr2) ++ rest) := by
  unfold fp
  rw [hf, fpF_append hl]
  simp [fpF]
theorem LAt.frame {a : LA} {fs1 fs2 : List FA} {f : FA} {cast : List Hn} {s : LS} {fr1 fr2 : List Frm} {r : Frm} {rest : List (Addr × O)} (hl : fs1.length = fr1.length) (hf : s.frames = fr1 ++ r :: fr2) (L : LAt σ a (fs1 ++ f :: fs2) cast s rest) :
    σ f.f = some (.inst 205 f.d) ∧ σ f.d = some (.sd [("number", .int r.num), ("calls", .ref f.c), ("deeds", .ref f.e)]) ∧ σ f.c = some (.list (r.calls.map V.str)) ∧ σ f.e = some (.list (r.deeds.map Deed.v)) := by
  have M := L.led
  rw [LAt.split hl hf] at M
  exact ⟨M.at_ (f.f, _) (by simp [fpF]), M.at_ (f.d, _) (by simp [fpF]), M.at_ (f.c, _) (by simp [fpF]), M.at_ (f.e, _) (by simp [fpF])⟩
theorem LAt.calls {a : LA} {fs1 fs2 : List FA} {f : FA} {cast : List Hn} {s : LS} {fr1 fr2 : List Frm} {r : Frm} {rest : List (Addr × O)} (hl : fs1.length = fr1.length) (hf : s.frames = fr1 ++ r :: fr2) (L : LAt σ a (fs1 ++ f :: fs2) cast s rest) (cs : List Str) :
    LAt (σ.upd f.c (.list (cs.map V.str))) a (fs1 ++ f :: fs2) cast { s with frames := fr1 ++ { r with calls := cs } :: fr2 } rest := by
  obtain ⟨M, l⟩ := L
  refine ⟨?_, by rw [l, hf]; simp⟩
  rw [LAt.split hl hf] at M
  rw [LAt.split hl rfl]
  have e : ∀ r : Frm, (tabE :: (fp a (fs1 ++ f :: fs2) cast { s with frames := [] } ++ fpF fs1 fr1)) ++ (fpF (f :: fs2) (r :: fr2) ++ rest)
      = ((tabE :: (fp a (fs1 ++ f :: fs2) cast { s with frames := [] } ++ fpF fs1 fr1)) ++ [(f.f, .inst 205 f.d), (f.d, .sd [("number", .int r.num), ("calls", .ref f.c), ("deeds", .ref f.e)])]) ++ (f.c, .list (r.calls.map V.str)) :: ((f.e, .list (r.deeds.map Deed.v)) :: (fpF fs2 fr2 ++ rest)) := fun r => by
    simp [fpF]
  rw [e] at M ⊢
  exact M.setS _
theorem strs_any (ns : List Str) (x : Str) : ((ns.map PyData.str).any fun y => PyData.eqv y (.str x)) = ns.contains x := by
  rw [Bool.eq_iff_iff]
  simp [PyData.eqv]
theorem CmpWP.inStrs {l : Addr} {ns : List Str} {x : Str} {Q : V → Store → Prop} (hu : A.units < 9000) (hl : σ l = some (.list (ns.map V.str))) (hx : PyData.strOk x = true) (hn : ∀ n ∈ ns, PyData.strOk n = true) (h : Q (.bool (ns.contains x)) σ) : CmpWP C A .In (.str x) (.ref l) σ Q X := by
  refine CmpWP.inL (ds := ns.map PyData.str) (.inl hl) (.str _) (DRs.map fun _ _ => .str _) (by simpa [PyData.canLay0] using hx) (canLayAll_map fun y hy => by simpa [PyData.canLay0] using hn y hy) (by simp only [PyData.depth, cLine]; (first | lia | omega)) ?_
  rw [strs_any]; exact h
theorem CmpWP.notInStrs {l : Addr} {ns : List Str} {x : Str} {Q : V → Store → Prop} (hu : A.units < 9000) (hl : σ l = some (.list (ns.map V.str))) (hx : PyData.strOk x = true) (hn : ∀ n ∈ ns, PyData.strOk n = true) (h : Q (.bool (!ns.contains x)) σ) : CmpWP C A .NotIn (.str x) (.ref l) σ Q X := by
  refine CmpWP.notInL (ds := ns.map PyData.str) (.inl hl) (.str _) (DRs.map fun _ _ => .str _) (by simpa [PyData.canLay0] using hx) (canLayAll_map fun y hy => by simpa [PyData.canLay0] using hn y hy) (by simp only [PyData.depth, cLine]; (first | lia | omega)) ?_
  rw [strs_any]; exact h
def Frm.away (n : Str) (r : Frm) : Frm := { r with calls := r.calls.erase n }
def LS.away (s : LS) (n : Str) : LS := { s with posts := s.posts.erase n, frames := s.frames.map (Frm.away n) }
structure LS.Names (s : LS) : Prop where
  po : ∀ n ∈ s.posts, PyData.strOk n = true
  fr : ∀ r ∈ s.frames, r.calls.length ≤ 10000 ∧ ∀ n ∈ r.calls, PyData.strOk n = true
theorem LAt.deedsNew {a : LA} {fs : List FA} {f : FA} {cast : List Hn} {s : LS} {r : Frm} {fr : List Frm} {rest : List (Addr × O)} {x : Addr} (L : LAt σ a (f :: fs) cast s rest) (hf : s.frames = r :: fr) (hx : σ x = none) (ds : List Deed) :
    LAt ((σ.upd x (.list (ds.map Deed.v))).upd f.d (.sd [("number", .int r.num), ("calls", .ref f.c), ("deeds", .ref x)])) a ({ f with e := x } :: fs) cast { s with frames := { r with deeds := ds } :: fr } rest := by
  obtain ⟨M, l⟩ := L
  refine ⟨?_, by rw [hf] at l; simpa using l⟩
  unfold fp at M ⊢
  rw [hf] at M
  have M1 := (M.new (.list (ds.map Deed.v)) hx).set 14 (.sd [("number", .int r.num), ("calls", .ref f.c), ("deeds", .ref x)]) rfl
  have M2 := M1.sub (l' := [(x, O.list (ds.map Deed.v))] ++ ([tabE, _, _, _, _, _, _, _, _, _, _, _, _, _, _] ++ (fpF fs fr ++ rest))) ((List.Sublist.refl [_, _, _, _, _, _, _, _, _, _, _, _, _, _, _, _]).append ((List.Sublist.refl _).cons _))
  exact M2.perm (List.perm_append_comm_assoc [_, _, _, _, _, _, _, _, _, _, _, _, _, _, _] [_] (fpF fs fr ++ rest))
theorem LAt.callsNew {a : LA} {fs : List FA} {f : FA} {cast : List Hn} {s : LS} {r : Frm} {fr : List Frm} {rest : List (Addr × O)} {x : Addr} (L : LAt σ a (f :: fs) cast s rest) (hf : s.frames = r :: fr) (hx : σ x = none) (cs : List Str) :
    LAt ((σ.upd x (.list (cs.map V.str))).upd f.d (.sd [("number", .int r.num), ("calls", .ref x), ("deeds", .ref f.e)])) a ({ f with c := x } :: fs) cast { s with frames := { r with calls := cs } :: fr } rest := by
  obtain ⟨M, l⟩ := L
  refine ⟨?_, by rw [hf] at l; simpa using l⟩
  unfold fp at M ⊢
  rw [hf] at M
  have M1 := (M.new (.list (cs.map V.str)) hx).set 14 (.sd [("number", .int r.num), ("calls", .ref x), ("deeds", .ref f.e)]) rfl
  have M2 := M1.sub (l' := [(x, O.list (cs.map V.str))] ++ ([tabE, _, _, _, _, _, _, _, _, _, _, _, _, _] ++ ((f.e, _) :: (fpF fs fr ++ rest)))) ((List.Sublist.refl [_, _, _, _, _, _, _, _, _, _, _, _, _, _, _]).append ((List.Sublist.refl _).cons _))
  exact M2.perm (List.perm_append_comm_assoc [_, _, _, _, _, _, _, _, _, _, _, _, _, _] [_] ((f.e, _) :: (fpF fs fr ++ rest)))
theorem LAt.top {a : LA} {fs : List FA} {f : FA} {cast : List Hn} {s : LS} {r : Frm} {fr : List Frm} {rest : List (Addr × O)} (L : LAt σ a (f :: fs) cast s rest) (hf : s.frames = r :: fr) :
    σ f.f = some (.inst 205 f.d) ∧ σ f.d = some (.sd [("number", .int r.num), ("calls", .ref f.c), ("deeds", .ref f.e)]) ∧ σ f.c = some (.list (r.calls.map V.str)) ∧ σ f.e = some (.list (r.deeds.map Deed.v)) :=
  LAt.frame (fs1 := []) (fr1 := []) rfl hf L
def LS.setDeeds (s : LS) (ds : List Deed) : LS := match s.frames with
  | r :: fr => { s with frames := { r with deeds := ds } :: fr }
  | [] => s
def LS.got (s : LS) (h : Hn) : LS := if h.once then (s.setDeeds h.ds).away h.name else s.setDeeds h.ds
def LS.callIn (s : LS) (n : Int) (h : Hn) : LS := { s.got h with log := s.log ++ [.call n h.name] }
theorem LS.Names.setDeeds {s : LS} (N : s.Names) (ds : List Deed) : (s.setDeeds ds).Names := by
  unfold LS.setDeeds
  split
  · rename_i r fr e
    refine ⟨N.po, fun q hq => ?_⟩
    rcases List.mem_cons.mp hq with rfl | hq
    · exact N.fr r (by rw [e]; exact .head _)
    · exact N.fr q (by rw [e]; exact .tail _ hq)
  · exact N
theorem LS.Small.setDeeds {s : LS} (Z : s.Small) (ds : List Deed) : (s.setDeeds ds).Small := by
  unfold LS.setDeeds
  split
  · rename_i r fr e
    exact ⟨Z.po, Z.ev, Z.lg, Z.ne, Z.fa, by have := Z.fr; rw [e] at this; simpa using this⟩
  · exact Z
theorem LS.got_log (s : LS) (h : Hn) : (s.got h).log = s.log := by
  unfold LS.got LS.away LS.setDeeds
  split <;> split <;> rfl
theorem COk.one {cast : List Hn} (K : COk cast) {x y : Hn} (hx : x ∈ cast) (hy : y ∈ cast) (e : x.name = y.name) : x = y := by
  obtain ⟨i, hi, rfl⟩ := List.getElem_of_mem hx
  obtain ⟨j, hj, rfl⟩ := List.getElem_of_mem hy
  have nd := List.pairwise_iff_getElem.mp K.nd
  rcases Nat.lt_trichotomy i j with q | q | q
  · have := nd i j (by simpa using hi) (by simpa using hj) q
    simp only [List.getElem_map] at this
    exact absurd e this
  · subst q; rfl
  · have := nd j i (by simpa using hj) (by simpa using hi) q
    simp only [List.getElem_map] at this
    exact absurd e.symm this
theorem LS.got_top {s : LS} {r : Frm} {fr : List Frm} (hf : s.frames = r :: fr) (h : Hn) : ∃ r' fr', (s.got h).frames = r' :: fr' ∧ r'.num = r.num := by
  unfold LS.got LS.away LS.setDeeds
  rw [hf]
  split <;> exact ⟨_, _, rfl, rfl⟩
theorem c_callin (hK : C.K = KL C.w.params) {a : LA} {f : FA} {fs : List FA} {cast : List Hn} {s : LS} {r : Frm} {fr : List Frm} {rest : List (Addr × O)} {hn : Hn} {Q : V → Store → Prop} (hr : A.depth + 1 < recursionLimit) (hh : A.handled = none) (hu : A.units < 6900) (L : LAt σ a (f :: fs) cast s rest) (hf : s.frames = r :: fr) (Z : s.Small) (N : s.Names) (K : COk cast) (hm : hn ∈ cast) (hd : ∀ h ∈ cast, h.ds.length ≤ 1000)
    (h : ∀ f' σ', f'.f = f.f → LAt σ' a (f' :: fs) cast (s.callIn r.num hn) rest → Q .none σ') : CallWP C A (.ref 258) [.ref a.lo, .ref f.f, .str hn.name] σ Q X := by
  have hr0 : A.depth < recursionLimit := by (first | lia | omega)
  have g1 := L.led.get 1 rfl
  have g2 := L.led.get 2 rfl
  have g3 := L.led.get 3 rfl
  have z1 := Z.lg
  have z2 := K.len
  k_extra "mdef3"
  intro fL A' a1 a2 a3
  have hh' : A'.handled = none := a1.trans hh
  have hr2 : A'.depth < recursionLimit := by (first | lia | omega)
  have hu' : A'.units < 7000 := by (first | lia | omega)
  repeat k_extra "m"
  refine ⟨_, _, ItV.list hh' (.inl g3), ?_⟩
  rw [List.map_map]
  refine ForL.inv (fun h : Hn => hv h.hd) (fun xs ρ σ1 => ∃ done f', done ++ xs = cast ∧ f'.f = f.f ∧ ρ.get "self" = some (.ref a.lo) ∧ ρ.get "frame" = some (.ref f.f) ∧ ρ.get "name" = some (.str hn.name) ∧
    LAt σ1 a (f' :: fs) cast (if hn.name ∈ done.map (·.name) then s.got hn else s) rest) ?_ ?_ _ _ _ ⟨[], f, rfl, rfl, by k_extra "mget", by k_extra "mget", by k_extra "mget", by simpa using L⟩
  · rintro x xs ρ σ1 ⟨done, f', e1, e2, r1, r2, r3, L1⟩
    have hx : x ∈ cast := by rw [← e1]; simp
    simp only [hv, Hn.hd]
    repeat k_extra "m"
    have nd := K.nd
    rw [← e1, List.map_append, List.map_cons] at nd
    cases hc : x.name == hn.name with
    | true =>
      have e3 : x.name = hn.name := by simpa using hc
      have e4 : x = hn := by
        exact COk.one K hx hm e3
      subst e4
      have e5 : x.name ∉ done.map (·.name) := fun z => by
        have := (List.nodup_append.mp nd).2.2 _ z _ (List.mem_cons_self ..)
        exact this rfl
      rw [if_neg e5] at L1
      obtain ⟨t1, t2, t3, t4⟩ := L1.top hf
      rw [e2] at t1
      refine Br.t rfl ?_
      repeat k_extra "m"
      refine CallWP.listOfTup (by simp [sizeLine_eq]; have := hd x hx; (first | lia | omega)) fun y hy => ?_
      have q1 : f.f ≠ y := fun q => by rw [← q, t1] at hy; cases hy
      have q2 : f'.d ≠ y := fun q => by rw [← q, t2] at hy; cases hy
      repeat k_extra "m"
      have L2 := L1.deedsNew hf hy x.ds
      generalize hσ : Store.upd (σ1.upd y _) f'.d _ = σ2 at L2 ⊢
      have L3 : LAt σ2 a ({ f' with e := y } :: fs) cast (s.setDeeds x.ds) rest := by
        unfold LS.setDeeds; rw [hf]; exact L2
      have e6 : x.name ∈ (done ++ [x]).map (·.name) := by simp
      cases ho : x.once with
      | true => rw [K.once x hx] at ho; cases ho
      | false =>
        refine Br.f rfl ?_
        repeat k_extra "m"
        refine ⟨.inl ?_, done ++ [x], { f' with e := y }, by simpa using e1, e2, by k_extra "mget", by k_extra "mget", by k_extra "mget", ?_⟩
        · rw [← List.map_map]; exact L3.led.get 3 rfl
        · rw [if_pos e6]; unfold LS.got; rw [ho]; exact L3
    | false =>
      have e3 : ¬ hn.name = x.name := fun e => by rw [e] at hc; simp at hc
      refine Br.f rfl ?_
      repeat k_extra "m"
      refine ⟨.inl ?_, done ++ [x], f', by simpa using e1, e2, by k_extra "mget", by k_extra "mget", by k_extra "mget", ?_⟩
      · rw [← List.map_map]; exact L1.led.get 3 rfl
      · have e7 : (hn.name ∈ (done ++ [x]).map (·.name)) = (hn.name ∈ done.map (·.name)) := by simp [e3]
        simp only [e7]; exact L1
  · rintro ρ σ1 ⟨done, f', e1, e2, r1, r2, r3, L1⟩
    rw [List.append_nil] at e1
    subst e1
    rw [if_pos (List.mem_map_of_mem hm)] at L1
    obtain ⟨r', fr', e3, e4⟩ := LS.got_top hf hn
    obtain ⟨t1, t2, t3, t4⟩ := L1.top e3
    rw [e2] at t1
    have g1 := L1.led.get 1 rfl
    have g2 := L1.led.get 2 rfl
    have g6 := L1.led.get 6 rfl
    rw [LS.got_log] at g6
    repeat k_extra "m"
    refine h f' _ e2 ?_
    have := L1.log (.call r'.num hn.name)
    rw [LS.got_log, e4] at this
    rw [e4]
    simpa [LS.callIn, Row.v] using this

theorem CmpWP.inTS {x : Str} {ns : List Str} {Q : V → Store → Prop} (hu : A.units < 9000) (hx : PyData.strOk x = true) (hn : ∀ n ∈ ns, PyData.strOk n = true) (h : Q (.bool (ns.contains x)) σ) : CmpWP C A .In (.str x) (.tup (ns.map V.str)) σ Q X := by
  refine CmpWP.inT (d := .str x) (ds := ns.map PyData.str) (.str _) (DRs.map fun _ _ => .str _) (by simpa [PyData.canLay0] using hx) (canLayAll_map fun y hy => by simpa [PyData.canLay0] using hn y hy) (by
    have e : PyData.depthAll (ns.map PyData.str) ≤ 1 := depthAll_map fun y hy => by simp [PyData.depth]
    simp only [PyData.depth, cLine]; (first | lia | omega)) ?_
  rw [strs_any]; exact h
def LS.setCalls (s : LS) (cs : List Str) : LS := match s.frames with
  | r :: fr => { s with frames := { r with calls := cs } :: fr }
  | [] => s
def LS.join (s : LS) (h : Str) : LS := { s with posts := if s.posts.contains h then s.posts else s.posts ++ [h] }
theorem c_deed_hush (hK : C.K = KL C.w.params) {a : LA} {f : FA} {fs : List FA} {cast : List Hn} {s : LS} {r : Frm} {fr : List Frm} {rest : List (Addr × O)} {Q : V → Store → Prop} (hr : A.depth < recursionLimit) (hh : A.handled = none) (hu : A.units < 6900) (L : LAt σ a (f :: fs) cast s rest) (hf : s.frames = r :: fr) (Z : s.Small)
    (h : ∀ f' σ', f'.f = f.f → LAt σ' a (f' :: fs) cast { s.setCalls [] with log := s.log ++ [.hush r.num] } rest → Q .none σ') : CallWP C A (.ref 270) [.ref a.lo, .ref f.f, Deed.v .hush] σ Q X := by
  have g1 := L.led.get 1 rfl
  have g2 := L.led.get 2 rfl
  have z2 := Z.lg
  obtain ⟨t1, t2, t3, t4⟩ := L.top hf
  simp only [Deed.v]
  k_extra "mdef3"
  intro fL A' a1 a2 a3
  have hh' : A'.handled = none := a1.trans hh
  have hu' : A'.units < 9000 := by (first | lia | omega)
  repeat k_extra "m"
  refine CmpWP.inTS (ns := [Str.ofString "now", Str.ofString "soon", Str.ofString "wait"]) hu' (strOk_ofString _) (by simp [strOk_ofString]) ?_
  repeat k_extra "m"
  intro y hy
  have q1 : f.f ≠ y := fun q => by rw [← q, t1] at hy; cases hy
  have q2 : f.d ≠ y := fun q => by rw [← q, t2] at hy; cases hy
  repeat k_extra "m"
  have L2 := L.callsNew hf hy []
  simp only [List.map_nil] at L2
  generalize hσ : Store.upd (σ.upd y _) f.d _ = σ2 at L2 ⊢
  have g1 := L2.led.get 1 rfl
  have g2 := L2.led.get 2 rfl
  have g6 := L2.led.get 6 rfl
  obtain ⟨t1, t2, t3, t4⟩ := L2.top rfl
  try dsimp only at g2 g6 t1 t2
  repeat k_extra "m"
  refine h { f with c := y } _ rfl ?_
  simpa [LS.setCalls, hf, Row.v] using L2.log (.hush r.num)
def Deed.Mk (d : Deed) : Prop := d = .hush
theorem LAt.deedsTop {a : LA} {fs : List FA} {f : FA} {cast : List Hn} {s : LS} {r : Frm} {fr : List Frm} {rest : List (Addr × O)} (L : LAt σ a (f :: fs) cast s rest) (hf : s.frames = r :: fr) (ds : List Deed) :
    LAt (σ.upd f.e (.list (ds.map Deed.v))) a (f :: fs) cast { s with frames := { r with deeds := ds } :: fr } rest := by
  obtain ⟨M, l⟩ := L
  refine ⟨?_, by rw [hf] at l; simpa using l⟩
  unfold fp at M ⊢
  rw [hf] at M
  exact M.set 15 _ rfl
theorem LAt.callsTop {a : LA} {fs : List FA} {f : FA} {cast : List Hn} {s : LS} {r : Frm} {fr : List Frm} {rest : List (Addr × O)} (L : LAt σ a (f :: fs) cast s rest) (hf : s.frames = r :: fr) (cs : List Str) :
    LAt (σ.upd f.c (.list (cs.map V.str))) a (f :: fs) cast { s with frames := { r with calls := cs } :: fr } rest :=
  LAt.calls (fs1 := []) (fr1 := []) rfl hf L cs
theorem LAt.popF {a : LA} {fs : List FA} {f : FA} {cast : List Hn} {s : LS} {r : Frm} {fr : List Frm} {rest : List (Addr × O)} (L : LAt σ a (f :: fs) cast s rest) (hf : s.frames = r :: fr) :
    LAt (σ.upd a.fr (.list ((fs.map fun f => V.ref f.f).reverse))) a fs cast { s with frames := fr } rest := by
  obtain ⟨M, l⟩ := L
  refine ⟨?_, by rw [hf] at l; simpa using l⟩
  unfold fp at M ⊢
  rw [hf] at M
  have M1 := M.set 11 (.list ((fs.map fun f => V.ref f.f).reverse)) rfl
  exact M1.sub ((List.Sublist.refl [_, _, _, _, _, _, _, _, _, _, _, _]).append (((((List.Sublist.refl _).cons _).cons _).cons _).cons _))
def LS.wordOf (s : LS) (n : Int) : Str := ((s.events[n.toNat]?).map (·.word)).getD Str.empty
def insI (x : Int) : List Int → List Int
  | [] => [x]
  | y :: l => if x ≤ y then x :: y :: l else y :: insI x l
def sortI (l : List Int) : List Int := l.foldr insI []
def LS.cancel (s : LS) (n : Int) (w : Str) : LS :=
  { s with near := s.near.filter fun x => !(s.wordOf x == w), far := s.far.filter fun p => !(s.wordOf p.2 == w), log := s.log ++ [.cancel n (sortI ((s.near ++ s.far.map (·.2)).filter fun x => s.wordOf x == w))] }
def LS.deed (s : LS) (n : Int) : Deed → LS
  | .now w => s.make n (.now w)
  | .soon w => s.make n (.soon w)
  | .wait t w => s.make n (.wait t w)
  | .cancel w => s.cancel n w
  | .join h => { s.join h with log := s.log ++ [.join n h] }
  | .leave h => { s.away h with log := s.log ++ [.leave n h] }
  | .hush => { s.setCalls [] with log := s.log ++ [.hush n] }
def Deed.Fine : Deed → Prop
  | .join n => PyData.strOk n = true
  | .leave n => PyData.strOk n = true
  | _ => True
theorem c_deed (hK : C.K = KL C.w.params) {a : LA} {f : FA} {fs : List FA} {cast : List Hn} {s : LS} {r : Frm} {fr : List Frm} {rest : List (Addr × O)} {d : Deed} {Q : V → Store → Prop} (hr : A.depth + 2 < recursionLimit) (hh : A.handled = none) (hu : A.units < 6900) (L : LAt σ a (f :: fs) cast s rest) (hf : s.frames = r :: fr) (Z : s.Small) (N : s.Names) (hd : d.Fine) (hnc : d.Mk)
    (h : ∀ f' σ', f'.f = f.f → LAt σ' a (f' :: fs) cast (s.deed r.num d) rest → Q .none σ') : CallWP C A (.ref 270) [.ref a.lo, .ref f.f, Deed.v d] σ Q X := by
  obtain rfl : d = .hush := hnc
  exact c_deed_hush hK (by (first | lia | omega)) hh hu L hf Z h
def LS.goOn (cast : List Hn) (s : LS) : LS := match s.frames with
  | [] => s
  | r :: fr => match r.deeds with
    | d :: ds => LS.deed { s with frames := { r with deeds := ds } :: fr } r.num d
    | [] => match r.calls with
      | n :: cs => match cast.find? (fun h => h.name == n) with
        | some h => LS.callIn { s with frames := { r with calls := cs } :: fr } r.num h
        | none => s
      | [] => { s with frames := fr, log := s.log ++ [.fin r.num] }
/-- what the loom's walks ask of its state -/
structure LS.Ok (cast : List Hn) (s : LS) : Prop where
  Z : s.Small
  N : s.Names
  po : ∀ n ∈ s.posts, n ∈ cast.map (·.name)
  ca : ∀ r ∈ s.frames, ∀ n ∈ r.calls, n ∈ cast.map (·.name)
  de : ∀ r ∈ s.frames, r.deeds.length ≤ 1000 ∧ ∀ d ∈ r.deeds, d.Fine ∧ d.Mk
  nofr : s.fresh = none
  none_ : s.near = []
theorem LS.Small.top {s : LS} {r r' : Frm} {fr : List Frm} (Z : s.Small) (hf : s.frames = r :: fr) : ({ s with frames := r' :: fr } : LS).Small :=
  ⟨Z.po, Z.ev, Z.lg, Z.ne, Z.fa, by have := Z.fr; rw [hf] at this; simpa using this⟩
theorem find_name {cast : List Hn} (K : COk cast) {h : Hn} (hm : h ∈ cast) : cast.find? (fun x => x.name == h.name) = some h := by
  cases e : cast.find? (fun x => x.name == h.name) with
  | none => exact absurd (List.find?_eq_none.mp e h hm) (by simp)
  | some y =>
    have h1 := List.mem_of_find?_eq_some e
    have h2 : y.name = h.name := by simpa using List.find?_some e
    rw [K.one h1 hm h2]
theorem c_goon (hK : C.K = KL C.w.params) {a : LA} {f : FA} {fs : List FA} {cast : List Hn} {s : LS} {r : Frm} {fr : List Frm} {rest : List (Addr × O)} {Q : V → Store → Prop} (hr : A.depth + 3 < recursionLimit) (hh : A.handled = none) (hu : A.units < 6800) (L : LAt σ a (f :: fs) cast s rest) (hf : s.frames = r :: fr) (W : s.Ok cast) (K : COk cast) (hds : ∀ h ∈ cast, h.ds.length ≤ 1000)
    (h : ∀ fs' σ', LAt σ' a fs' cast (s.goOn cast) rest → Q .none σ') : CallWP C A (.ref 251) [.ref a.lo, .ref f.f] σ Q X := by
  have hr0 : A.depth < recursionLimit := by (first | lia | omega)
  have g1 := L.led.get 1 rfl
  have g2 := L.led.get 2 rfl
  obtain ⟨t1, t2, t3, t4⟩ := L.top hf
  have hrm : r ∈ s.frames := by rw [hf]; exact .head _
  obtain ⟨y1, y2⟩ := W.de r hrm
  obtain ⟨y3, y4⟩ := W.N.fr r hrm
  k_extra "mdef2"
  intro fL A' a1 a2 a3
  have hh' : A'.handled = none := a1.trans hh
  have hu' : A'.units < 6900 := by (first | lia | omega)
  repeat k_extra "m"
  cases hdd : r.deeds with
  | cons d ds =>
    rw [hdd] at t4 y2 y1
    refine Br.t (by simp) ?_
    repeat k_extra "m"
    refine CallWP.pop_at (j := 0) t4 (by decide) (by rw [seqIndex_of (by (first | lia | omega)) (by simp <;> (first | lia | omega))]; rfl) rfl (by rw [List.length_map, sizeLine_eq]; (first | lia | omega)) ?_
    have L2 := L.deedsTop hf ds
    have e : List.eraseIdx (List.map Deed.v (d :: ds)) 0 = ds.map Deed.v := rfl
    rw [e]
    generalize hσ : Store.upd σ f.e _ = σ2 at L2 ⊢
    have g1 := L2.led.get 1 rfl
    have g2 := L2.led.get 2 rfl
    repeat k_extra "m"
    have N2 : ({ s with frames := { r with deeds := ds } :: fr } : LS).Names := ⟨W.N.po, fun q hq => by
      rcases List.mem_cons.mp hq with rfl | hq
      · exact ⟨y3, y4⟩
      · exact W.N.fr q (by rw [hf]; exact .tail _ hq)⟩
    obtain ⟨q1, q2⟩ := y2 d (.head _)
    refine c_deed hK (r := { r with deeds := ds }) (fr := fr) (by (first | lia | omega)) hh' hu' L2 rfl (W.Z.top hf) N2 q1 q2 fun f' σ3 e3 L3 => ?_
    repeat k_extra "m"
    refine h (f' :: fs) _ ?_
    unfold LS.goOn
    rw [hf]
    simp only [hdd]
    exact L3
  | nil =>
    rw [hdd] at t4
    refine Br.f (by simp) ?_
    repeat k_extra "m"
    cases hcc : r.calls with
    | cons n cs =>
      rw [hcc] at t3 y3 y4
      refine Br.t (by simp) ?_
      repeat k_extra "m"
      refine CallWP.pop_at (j := 0) t3 (by decide) (by rw [seqIndex_of (by (first | lia | omega)) (by simp <;> (first | lia | omega))]; rfl) rfl (by rw [List.length_map, sizeLine_eq]; (first | lia | omega)) ?_
      have L2 := L.callsTop hf cs
      have e : List.eraseIdx (List.map V.str (n :: cs)) 0 = cs.map V.str := rfl
      rw [e]
      generalize hσ : Store.upd σ f.c _ = σ2 at L2 ⊢
      have g1 := L2.led.get 1 rfl
      have g2 := L2.led.get 2 rfl
      repeat k_extra "m"
      have N2 : ({ s with frames := { r with calls := cs } :: fr } : LS).Names := ⟨W.N.po, fun q hq => by
        rcases List.mem_cons.mp hq with rfl | hq
        · exact ⟨by simp at y3 ⊢; (first | lia | omega), fun x hx => y4 x (.tail _ hx)⟩
        · exact W.N.fr q (by rw [hf]; exact .tail _ hq)⟩
      have hn : n ∈ cast.map (·.name) := W.ca r hrm n (by rw [hcc]; exact .head _)
      obtain ⟨hn0, hm, e0⟩ := List.mem_map.mp hn
      subst e0
      have ef : cast.find? (fun h => h.name == hn0.name) = some hn0 := find_name K hm
      refine c_callin hK (r := { r with calls := cs }) (fr := fr) (by (first | lia | omega)) hh' (by (first | lia | omega)) L2 rfl (W.Z.top hf) N2 K hm hds fun f' σ3 e3 L3 => ?_
      repeat k_extra "m"
      refine h (f' :: fs) _ ?_
      unfold LS.goOn
      rw [hf]
      simp only [hdd, hcc, ef]
      exact L3
    | nil =>
      rw [hcc] at t3
      refine Br.f (by simp) ?_
      have g11 : σ a.fr = some (.list ((fs.map fun f => V.ref f.f).reverse ++ [.ref f.f])) := by
        have := L.led.get 11 rfl
        rw [List.map_cons, List.reverse_cons] at this
        exact this
      have z1 := W.Z.fr
      have z2 := L.len
      have z3 := W.Z.lg
      rw [hf] at z1 z2
      simp only [List.length_cons] at z1 z2
      repeat k_extra "m"
      have L2 := L.popF hf
      have t1' : (σ.upd a.fr (.list ((fs.map fun f => V.ref f.f).reverse))) f.f = some (.inst 205 f.d) := Store.miss (Store.ne_kind t1 g11 (by simp [O.kind])) t1
      have t2' : (σ.upd a.fr (.list ((fs.map fun f => V.ref f.f).reverse))) f.d = _ := Store.miss (Store.ne_kind t2 g11 (by simp [O.kind])) t2
      generalize hσ : Store.upd σ a.fr _ = σ2 at L2 t1' t2' ⊢
      have g1 := L2.led.get 1 rfl
      have g2 := L2.led.get 2 rfl
      have g6 := L2.led.get 6 rfl
      dsimp only at g2 g6
      repeat k_extra "m"
      refine h fs _ ?_
      unfold LS.goOn
      rw [hf]
      simp only [hdd, hcc]
      simpa [Row.v] using L2.log (.fin r.num)

theorem Heard.unique {hs : List Hd} {ns : List Str} {w : Str} {o1 o2 : List Str} (h1 : Heard hs ns w o1) (h2 : Heard hs ns w o2) : o1 = o2 := by
  obtain ⟨p, a1, a2, rfl⟩ := h1
  obtain ⟨q, b1, b2, rfl⟩ := h2
  have e : p = q := by
    refine List.Perm.eq_of_pairwise (le := slt _) ?_ a2 b2 (a1.trans b1.symm)
    intro i j _ _ x y
    unfold slt at x y
    simp only [decide_eq_true_eq, decide_eq_false_iff_not] at x y
    (first | lia | omega)
  rw [e]
open Classical in
/-- those who hear a word, in the order in which they are called -/
noncomputable def heard (cast : List Hn) (ps : List Str) (w : Str) : List Str := if h : ∃ out, Heard (cast.map Hn.hd) ps w out then Classical.choose h else []
theorem heard_eq {cast : List Hn} {ps : List Str} {w : Str} {out : List Str} (h : Heard (cast.map Hn.hd) ps w out) : out = heard cast ps w := by
  unfold heard
  have hx : ∃ out, Heard (cast.map Hn.hd) ps w out := ⟨out, h⟩
  rw [dif_pos hx]
  exact h.unique (Classical.choose_spec hx)
/-- the least of the waiting pairs -/
def minP (l : List (Int × Int)) : Option (Int × Int) := l.find? fun p => l.all fun q => !lexlt q p
theorem lexlt_anti {p q : Int × Int} (h1 : lexlt p q = false) (h2 : lexlt q p = false) : p = q := by
  unfold lexlt at h1 h2
  simp only [Bool.or_eq_false_iff, decide_eq_false_iff_not, Bool.and_eq_false_imp, beq_iff_eq] at h1 h2
  obtain ⟨a, b⟩ := h1
  obtain ⟨c, d⟩ := h2
  have e : p.1 = q.1 := by (first | lia | omega)
  have f := b e
  have g := d e.symm
  exact Prod.ext e (by (first | lia | omega))
theorem minP_eq {l : List (Int × Int)} {p : Int × Int} (hp : p ∈ l) (hm : ∀ q ∈ l, lexlt q p = false) : minP l = some p := by
  unfold minP
  have hok : (l.all fun q => !lexlt q p) = true := by
    rw [List.all_eq_true]; intro q hq; simp [hm q hq]
  cases e : l.find? (fun p => l.all fun q => !lexlt q p) with
  | none => exact absurd hok (List.find?_eq_none.mp e p hp)
  | some y =>
    have h1 := List.mem_of_find?_eq_some e
    have h2 := List.find?_some e
    simp only [List.all_eq_true, Bool.not_eq_true'] at h2
    rw [lexlt_anti (hm y h1) (h2 p hp)]
noncomputable def LS.begins (cast : List Hn) (s : LS) (n : Int) : LS := s.begin n (heard cast s.posts (s.wordOf n))
noncomputable def LS.step (cast : List Hn) (s : LS) : Option LS := match s.fresh with
  | some n => some (LS.begins cast { s with fresh := none } n)
  | none => match s.frames with
    | _ :: _ => some (s.goOn cast)
    | [] => match s.near with
      | n :: ns => some (LS.begins cast { s with near := ns } n)
      | [] => match minP s.far with
        | some p => some (LS.begins cast { s with far := s.far.erase p, time := max s.time p.1 } p.2)
        | none => none
/-- the numbers that stand for events -/
structure LS.Nums (s : LS) : Prop where
  fresh : ∀ n, s.fresh = some n → 0 ≤ n ∧ n < s.events.length
  near : ∀ n ∈ s.near, 0 ≤ n ∧ n < s.events.length
  far : ∀ p ∈ s.far, 0 ≤ p.2 ∧ p.2 < s.events.length
  word : ∀ e ∈ s.events, PyData.strOk e.word = true
theorem c_begins (E : LC C) {a : LA} {fs : List FA} {cast : List Hn} {s : LS} {rest : List (Addr × O)} {n : Int} {Q : V → Store → Prop} (hr : A.depth + 2 < recursionLimit) (hh : A.handled = none) (hu : A.units < 7000) (L : LAt σ a fs cast s rest) (Z : s.Small) (K : COk cast)
    (hsub : ∀ n ∈ s.posts, n ∈ cast.map (·.name)) (h0 : 0 ≤ n) (h1 : n < s.events.length) (hw : ∀ e ∈ s.events, PyData.strOk e.word = true)
    (h : ∀ f σ', LAt σ' a (f :: fs) cast (s.begins cast n) rest → Q .none σ') : CallWP C A (.ref 244) [.ref a.lo, .int n] σ Q X := by
  obtain ⟨i, rfl⟩ := Int.eq_ofNat_of_zero_le h0
  have hi : i < s.events.length := by (first | lia | omega)
  have e1 : s.events[i]? = some s.events[i] := List.getElem?_eq_getElem hi
  have e2 : s.wordOf (i : Int) = (s.events[i]).word := by simp [LS.wordOf, hi]
  refine c_begin E hr hh hu L Z K hsub e1 (hw _ (List.getElem_mem hi)) fun out f σ' hH L' => h f σ' ?_
  unfold LS.begins
  rw [e2, ← heard_eq hH]
  exact L'
theorem c_step (E : LC C) {a : LA} {fs : List FA} {cast : List Hn} {s : LS} {rest : List (Addr × O)} {Q : V → Store → Prop} (hr : A.depth + 4 < recursionLimit) (hh : A.handled = none) (hu : A.units < 6700) (L : LAt σ a fs cast s rest) (W : s.Ok cast) (M : s.Nums) (K : COk cast) (hds : ∀ h ∈ cast, h.ds.length ≤ 1000)
    (h : ∀ fs' σ' s', s.step cast = some s' → LAt σ' a fs' cast s' rest → Q (.bool true) σ') (h2 : s.step cast = none → Q (.bool false) σ) : CallWP C A (.ref 237) [.ref a.lo] σ Q X := by
  have hK := E.hK
  have hr0 : A.depth < recursionLimit := by (first | lia | omega)
  have g1 := L.led.get 1 rfl
  have g2 := L.led.get 2 rfl
  have g11 := L.led.get 11 rfl
  have z1 := W.Z.fr
  have z2 := L.len
  k_extra "mdef1"
  intro fL A' a1 a2 a3
  have hh' : A'.handled = none := a1.trans hh
  cases hfr : s.fresh with
  | some n => rw [W.nofr] at hfr; cases hfr
  | none =>
    rw [hfr] at g2
    dsimp only [optV] at g2
    repeat k_extra "m"
    cases fs with
    | cons f fs1 =>
      obtain ⟨r, fr, hf⟩ : ∃ r fr, s.frames = r :: fr := by
        cases e : s.frames with
        | nil => rw [e] at z2; simp at z2
        | cons r fr => exact ⟨r, fr, rfl⟩
      rw [List.map_cons, List.reverse_cons] at g11
      refine Br.t (by simp) ?_
      repeat k_extra "m"
      refine c_goon hK (by (first | lia | omega)) hh' (by (first | lia | omega)) L hf W K hds fun fs' σ2 L2 => ?_
      repeat k_extra "m"
      refine h _ _ _ ?_ L2
      unfold LS.step; rw [hfr, hf]
    | nil =>
      have hf : s.frames = [] := by
        cases e : s.frames with
        | nil => rfl
        | cons r fr => rw [e] at z2; simp at z2
      refine Br.f (by simp) ?_
      have g7 := L.led.get 7 rfl
      have g8 := L.led.get 8 rfl
      repeat k_extra "m"
      refine c_lead hK (by (first | lia | omega)) hh' (by (first | lia | omega)) W.none_ L.wat (by have := W.Z.ne; (first | lia | omega)) (by have := W.Z.fa; (first | lia | omega)) ?_ ?_ ?_
      · intro n ns hn
        rw [W.none_] at hn; cases hn
      · intro e1 e2
        repeat k_extra "m"
        refine h2 ?_
        unfold LS.step; rw [hfr, hf, e1, e2]; rfl
      · intro e1 p hp hm
        have L2 := L.far (s.far.erase p)
        generalize hσ : Store.upd σ a.fa _ = σ2 at L2 ⊢
        have g1 := L2.led.get 1 rfl
        have g2 := L2.led.get 2 rfl
        obtain ⟨m1, m2⟩ := M.far p hp
        have es : s.step cast = some (LS.begins cast { s with far := s.far.erase p, time := max s.time p.1 } p.2) := by
          unfold LS.step; rw [hfr, hf, e1, minP_eq hp hm]
        have Z2 : ({ s with far := s.far.erase p, time := max s.time p.1 } : LS).Small := ⟨W.Z.po, W.Z.ev, W.Z.lg, W.Z.ne, Nat.le_trans (List.length_erase_le ..) W.Z.fa, W.Z.fr⟩
        dsimp only at g2
        repeat k_extra "m"
        by_cases hlt : s.time < p.1
        · refine Br.t (by simpa using hlt) ?_
          repeat k_extra "m"
          have L3 := L2.time p.1
          dsimp only at L3
          generalize hσ3 : Store.upd σ2 a.d _ = σ3 at L3 ⊢
          have e3 : max s.time p.1 = p.1 := by (first | lia | omega)
          rw [← e3] at L3
          have g1 := L3.led.get 1 rfl
          have g2 := L3.led.get 2 rfl
          repeat k_extra "m"
          refine c_begins E (by (first | lia | omega)) hh' (by (first | lia | omega)) L3 Z2 K W.po m1 m2 M.word fun f σ4 L4 => ?_
          repeat k_extra "m"
          exact h _ _ _ es L4
        · refine Br.f (by simpa using hlt) ?_
          have e3 : max s.time p.1 = s.time := by (first | lia | omega)
          rw [e3] at es Z2
          repeat k_extra "m"
          refine c_begins E (by (first | lia | omega)) hh' (by (first | lia | omega)) L2 Z2 K W.po m1 m2 M.word fun f σ4 L4 => ?_
          repeat k_extra "m"
          exact h _ _ _ es L4

noncomputable def LS.runs (cast : List Hn) : Nat → LS → Nat × LS
  | 0, s => (0, s)
  | k + 1, s => match s.step cast with
    | none => (0, s)
    | some s' => ((LS.runs cast k s').1 + 1, (LS.runs cast k s').2)
theorem LS.runs_some {cast : List Hn} {k : Nat} {s s' : LS} (h : s.step cast = some s') : LS.runs cast (k + 1) s = ((LS.runs cast k s').1 + 1, (LS.runs cast k s').2) := by
  rw [LS.runs]; simp only [h]
theorem LS.runs_none {cast : List Hn} {k : Nat} {s : LS} (h : s.step cast = none) : LS.runs cast k s = (0, s) := by
  cases k with
  | zero => rfl
  | succ k => rw [LS.runs]; simp only [h]
theorem c_run (E : LC C) {a : LA} {fs : List FA} {cast : List Hn} {s : LS} {rest : List (Addr × O)} {m : Nat} {Q : V → Store → Prop} (hr : A.depth + 5 < recursionLimit) (hh : A.handled = none) (hu : A.units < 6600) (L : LAt σ a fs cast s rest) (K : COk cast) (hds : ∀ h ∈ cast, h.ds.length ≤ 1000)
    (P : Nat → LS → Prop) (h0 : P 0 s) (hs : ∀ k s1 s2, k < m → P k s1 → s1.step cast = some s2 → P (k + 1) s2) (hok : ∀ k s1, k < m → P k s1 → s1.Ok cast ∧ s1.Nums)
    (h : ∀ k fs' s' σ', k ≤ m → P k s' → LS.runs cast m s = (k, s') → (k < m → s'.step cast = none) → LAt σ' a fs' cast s' rest → Q (.int k) σ') : CallWP C A (.ref 284) [.ref a.lo, .int m] σ Q X := by
  have hK := E.hK
  have hr0 : A.depth < recursionLimit := by (first | lia | omega)
  have g1 := L.led.get 1 rfl
  k_extra "mdef2"
  intro fL A' a1 a2 a3
  have hh' : A'.handled = none := a1.trans hh
  have hr2 : A'.depth < recursionLimit := by (first | lia | omega)
  repeat k_extra "m"
  refine c_whole hK hr2 (.int _) ?_
  repeat k_extra "m"
  refine Ex.while (fun n ρ σ1 => ∃ k fs1 s1, n = m - k ∧ k ≤ m ∧ P k s1 ∧ LS.runs cast m s = (k + (LS.runs cast (m - k) s1).1, (LS.runs cast (m - k) s1).2) ∧ ρ.get "self" = some (.ref a.lo) ∧ ρ.get "most" = some (.int m) ∧ ρ.get "done" = some (.int k) ∧ LAt σ1 a fs1 cast s1 rest) ?_ m ⟨0, fs, s, by simp, by (first | lia | omega), h0, by simp, by k_extra "mget", by k_extra "mget", by rw [show ((0 : Nat) : Int) = 0 from rfl]; k_extra "mget", L⟩
  rintro n ρ σ1 ⟨k, fs1, s1, rfl, hk, hP, hR, r1, r2, r3, L1⟩
  have g1 := L1.led.get 1 rfl
  have g2 := L1.led.get 2 rfl
  repeat k_extra "m"
  by_cases hlt : k < m
  · obtain ⟨W, M⟩ := hok k s1 hlt hP
    obtain ⟨j, hj⟩ : ∃ j, m - k = j + 1 := ⟨m - k - 1, by (first | lia | omega)⟩
    refine Br.t (by simpa using hlt) ?_
    repeat k_extra "m"
    refine c_step E (by (first | lia | omega)) hh' (by (first | lia | omega)) L1 W M K hds ?_ ?_
    · intro fs2 σ2 s2 hst L2
      repeat k_extra "m"
      have e1 : m - (k + 1) = j := by (first | lia | omega)
      refine ⟨m - (k + 1), by (first | lia | omega), k + 1, fs2, s2, rfl, by (first | lia | omega), hs k s1 s2 hlt hP hst, ?_, by k_extra "mget", by k_extra "mget", by rw [show ((k + 1 : Nat) : Int) = (k : Int) + 1 from by omega]; k_extra "mget", L2⟩
      rw [hR, hj, LS.runs_some hst, e1]
      simp only [Prod.mk.injEq, and_true]
      (first | lia | omega)
    · intro hst
      repeat k_extra "m"
      refine h k fs1 s1 σ1 hk hP ?_ (fun _ => hst) L1
      rw [hR, LS.runs_none hst]; rfl
  · refine Br.f (by simpa using hlt) ?_
    repeat k_extra "m"
    have e1 : m - k = 0 := by (first | lia | omega)
    refine h k fs1 s1 σ1 hk hP ?_ (fun z => absurd z hlt) L1
    rw [hR, e1]; rfl

def Deed.Good (d : Deed) : Prop := d = .hush
theorem isW_len {x : Str} (h : isW x = true) : x.length ≤ 12 := by
  unfold isW at h
  simp only [Bool.and_eq_true, decide_eq_true_eq] at h
  exact h.1.2
abbrev withAWord : List Str := [Str.ofString "now", Str.ofString "soon", Str.ofString "cancel", Str.ofString "join", Str.ofString "leave"]
theorem c_isdeed1 (hK : C.K = KL C.w.params) {Q : V → Store → Prop} (hr : A.depth + 1 < recursionLimit) (hh : A.handled = none) (hu : A.units < 7000)
    (h : ∀ σ', Grow σ σ' → Q (.bool true) σ') : CallWP C A (.ref 114) [.tup [.str (Str.ofString "hush")]] σ Q X := by
  have hr0 : A.depth < recursionLimit := by (first | lia | omega)
  have hk : withAWord.contains (Str.ofString "hush") = false := by decide +kernel
  k_extra "mdef1"
  intro fL A' a1 a2 a3
  have hh' : A'.handled = none := a1.trans hh
  have hr2 : A'.depth < recursionLimit := by (first | lia | omega)
  repeat k_extra "m"
  refine CmpWP.inTS (ns := withAWord) (by (first | lia | omega)) (strOk_ofString _) (by simp [withAWord, strOk_ofString]) ?_
  rw [hk]
  repeat k_extra "m"
  exact h _ Grow.rfl'
theorem c_isdeed (hK : C.K = KL C.w.params) {d : Deed} {Q : V → Store → Prop} (hr : A.depth + 1 < recursionLimit) (hh : A.handled = none) (hu : A.units < 7000) (hd : d.Good) (h : ∀ σ', Grow σ σ' → Q (.bool true) σ') : CallWP C A (.ref 114) [d.v] σ Q X := by
  obtain rfl : d = .hush := hd
  exact c_isdeed1 hK hr hh hu h
/-- a handler that stands well; its deeds are a list or a tuple -/
structure Hn.Good (h : Hn) : Prop where
  name : isW h.name = true
  hears : h.hears = Str.ofString "" ∨ isW h.hears = true
  len : h.ds.length ≤ 30
  ds : ∀ d ∈ h.ds, d.Good
/-- how a handler lies as it is told: x holds its deeds -/
def Hn.tv (h : Hn) (x : V) : V := .tup [.str h.name, .int h.rank, .str h.hears, .bool h.once, x]

theorem c_ishandler (hK : C.K = KL C.w.params) {hn : Hn} {x : V} {Q : V → Store → Prop} (hr : A.depth + 2 < recursionLimit) (hh : A.handled = none) (hu : A.units < 6900) (G : hn.Good)
    (hx : (∃ l, x = .ref l ∧ σ l = some (.list (hn.ds.map Deed.v))) ∨ False)
    (h : ∀ σ', Grow σ σ' → Q (.bool true) σ') : CallWP C A (.ref 119) [hn.tv x] σ Q X := by
  have hr0 : A.depth < recursionLimit := by (first | lia | omega)
  have l1 := isW_len G.name
  have l2 := G.len
  simp only [Hn.tv]
  k_extra "mdef1"
  intro fL A' a1 a2 a3
  have hh' : A'.handled = none := a1.trans hh
  have hr2 : A'.depth < recursionLimit := by (first | lia | omega)
  refine Exs.cut (fun ρ σ' => ρ.get "thing" = some (.tup [.str hn.name, .int hn.rank, .str hn.hears, .bool hn.once, x]) ∧ Grow σ σ') ?_ ?_
  · repeat k_extra "m"
    exact ⟨rfl, by k_extra "mget", Grow.rfl'⟩
  rintro ρ σ1 ⟨r1, g1⟩
  refine Exs.cut (fun ρ σ' => ρ.get "thing" = some (.tup [.str hn.name, .int hn.rank, .str hn.hears, .bool hn.once, x]) ∧ Grow σ σ') ?_ ?_
  · repeat k_extra "m"
    refine c_isw hK hr2 hh' (by (first | lia | omega)) fun σ2 g2 => ?_
    rw [G.name]
    repeat k_extra "m"
    refine c_whole hK hr2 (.int _) ?_
    repeat k_extra "m"
    exact ⟨rfl, by k_extra "mget", g1.trans g2⟩
  clear r1 g1 ρ σ1
  rintro ρ σ1 ⟨r1, g1⟩
  refine Exs.cut (fun ρ σ' => ρ.get "thing" = some (.tup [.str hn.name, .int hn.rank, .str hn.hears, .bool hn.once, x]) ∧ Grow σ σ') ?_ ?_
  · repeat k_extra "m"
    rcases G.hears with e | e
    · refine Br.f (by rw [e]; simp) ?_
      repeat k_extra "m"
      exact ⟨rfl, by k_extra "mget", g1⟩
    · cases hc : hn.hears != Str.ofString "" with
      | false =>
        refine Br.f rfl ?_
        repeat k_extra "m"
        exact ⟨rfl, by k_extra "mget", g1⟩
      | true =>
        refine Br.t rfl ?_
        repeat k_extra "m"
        refine c_isw hK hr2 hh' (by have := isW_len e; (first | lia | omega)) fun σ2 g2 => ?_
        rw [e]
        repeat k_extra "m"
        exact ⟨rfl, by k_extra "mget", g1.trans g2⟩
  clear r1 g1 ρ σ1
  rintro ρ σ1 ⟨r1, g1⟩
  have isd : ∀ {A2 : Around} {σ2 : Store} {d : Deed} {Q2 : V → Store → Prop} {X2 : XP}, A2.depth = A'.depth → A2.handled = none → A2.units = A'.units → d ∈ hn.ds → (∀ σ', Grow σ2 σ' → Q2 (.bool true) σ') → CallWP C A2 (.ref 114) [d.v] σ2 Q2 X2 := by
    intro A2 σ2 d Q2 X2 b1 b2 b3 hd hq
    exact c_isdeed hK (by (first | lia | omega)) b2 (by (first | lia | omega)) (G.ds d hd) hq
  rcases hx with ⟨l, rfl, hl⟩ | hx
  · have hl1 := g1 _ _ hl
    repeat k_extra "m"
    refine Br.t (by simp; (first | lia | omega)) ?_
    repeat k_extra "m"
    refine ⟨_, _, ItV.list hh' (.inl hl1), fun L' => ?_⟩
    refine CmpL.inv Deed.v (fun ys out σ2 => ∃ done, done ++ ys = hn.ds ∧ Grow σ1 σ2 ∧ out = (done.map fun _ => true).map V.bool) ?_ ?_ _ _ _ ⟨[], rfl, Grow.rfl', rfl⟩
    · rintro d ys out σ2 ⟨done, e, g, rfl⟩
      have e2 : done.length ≤ 30 := by rw [← e] at l2; simp at l2; (first | lia | omega)
      repeat k_extra "m"
      refine isd rfl hh' rfl (by rw [← e]; simp) fun σ3 g3 => ?_
      exact ⟨by simp [sizeLine_eq]; (first | lia | omega), .inl (g3 _ _ (g _ _ hl1)), done ++ [d], by simpa using e, g.trans g3, by simp⟩
    · rintro out σ2 ⟨done, e, g, rfl⟩
      rw [List.append_nil] at e
      subst e
      intro c hc
      repeat k_extra "m"
      refine CallWP.all hh' (.inl Store.hit) ?_
      have e3 : ((hn.ds.map fun _ => true).all id) = true := by simp
      rw [e3]
      repeat k_extra "m"
      exact h _ ((g1.trans g).fresh hc)
  · exact hx.elim

/-- handlers as they are told -/
structure Told (σ : Store) (hs : List (Hn × V)) : Prop where
  at_ : ∀ p ∈ hs, (∃ l, p.2 = .ref l ∧ σ l = some (.list (p.1.ds.map Deed.v))) ∨ False
  good : ∀ p ∈ hs, p.1.Good
  nd : (hs.map (·.1.name)).Nodup
  len : hs.length ≤ 40
  names : ∀ p ∈ hs, ∀ d ∈ p.1.ds, ∀ n, (d = .join n ∨ d = .leave n) → n ∈ hs.map (·.1.name)
theorem sput_names : ∀ {ns : List Str} {n : Str}, n ∉ ns → sput (ns.map fun n => (n, V.bool true)) n (.bool true) = (ns ++ [n]).map fun n => (n, V.bool true)
  | [], n, _ => rfl
  | k :: ns, n, h => by
    simp only [List.mem_cons, not_or] at h
    simp only [List.map_cons, List.cons_append, sput, h.1, if_false]
    exact congrArg _ (sput_names h.2)
theorem sget_names {ns : List Str} {n : Str} : (sget (ns.map fun n => (n, V.bool true)) n).isSome = ns.contains n := by
  unfold sget
  rw [Option.isSome_map, List.find?_map, Option.isSome_map, Bool.eq_iff_iff]
  simp [List.find?_isSome]
theorem c_needh (hK : C.K = KL C.w.params) (hS : SysOk C) {l : Addr} {hs : List (Hn × V)} {Q : V → Store → Prop} (hr : A.depth + 3 < recursionLimit) (hh : A.handled = none) (hu : A.units < 6800) (T : Told σ hs) (hl : LstAt C σ l (hs.map fun p => p.1.tv p.2))
    (h : ∀ a σ', Grow σ σ' → σ a = none → σ' a = some (.list ((hs.map (·.1.hd)).map hv)) → Q (.ref a) σ') : CallWP C A (.ref 126) [.ref l] σ Q X := by
  have hr0 : A.depth < recursionLimit := by (first | lia | omega)
  have l2 := T.len
  k_extra "mdef1"
  intro fL A' a1 a2 a3
  have hh' : A'.handled = none := a1.trans hh
  repeat k_extra "m"
  intro fa hfa
  repeat k_extra "m"
  refine Ev.dict0 fun kn hkn => ?_
  repeat k_extra "m"
  obtain ⟨q1, hkn0⟩ := Store.none_ne hkn
  have g0 : Grow σ ((σ.upd fa (.list [])).upd kn (.sd [])) := (Grow.rfl'.upd hfa).upd hkn0
  have lg : ∀ {σ1 : Store}, Grow σ σ1 → LstAt C σ1 l (hs.map fun p => p.1.tv p.2) := fun g => by
    rcases hl with z | z
    · exact .inl (g _ _ z)
    · exact .inr z
  refine ⟨l, _, rfl, lg g0, ?_⟩
  rw [enumV_map]
  refine ForL.inv (fun p : (Hn × V) × Nat => V.tup [.int (p.2 : Int), p.1.1.tv p.1.2]) (fun xs ρ σ1 => ∃ done rest, done ++ rest = hs ∧ xs = rest.zipIdx done.length ∧ Grow σ σ1 ∧ σ1 fa = some (.list ((done.map (·.1.hd)).map hv)) ∧ σ1 kn = some (.sd ((done.map (·.1.name)).map fun n => (n, V.bool true))) ∧ ρ.get "found" = some (.ref fa) ∧ ρ.get "known" = some (.ref kn)) ?_ ?_ _ _ _
    ⟨[], hs, rfl, rfl, g0, Store.miss (Ne.symm q1) Store.hit, Store.hit, by k_extra "mget", by k_extra "mget"⟩
  · rintro ⟨⟨hn, v⟩, i⟩ xs ρ σ1 ⟨done, rest, e1, e2, g1, f1, f2, r1, r2⟩
    cases rest with
    | nil => simp at e2
    | cons p rest =>
    rw [List.zipIdx_cons] at e2
    simp only [List.cons.injEq, Prod.mk.injEq] at e2
    obtain ⟨⟨rfl, rfl⟩, rfl⟩ := e2
    have hm : (hn, v) ∈ hs := by rw [← e1]; simp
    have hlen : done.length < 40 := by rw [← e1] at l2; simp at l2; (first | lia | omega)
    have hG := T.good _ hm
    have hv0 := T.at_ _ hm
    have hv1 : (∃ l, v = .ref l ∧ σ1 l = some (.list (hn.ds.map Deed.v))) ∨ False := by
      rcases hv0 with ⟨l', z1, z2⟩ | z
      · exact .inl ⟨l', z1, g1 _ _ z2⟩
      · exact .inr z
    have hnew : hn.name ∉ done.map (·.1.name) := by
      have nd := T.nd
      rw [← e1, List.map_append, List.nodup_append] at nd
      exact fun z => nd.2.2 _ z _ (by simp) rfl
    have hds := hG.len
    dsimp only
    repeat k_extra "m"
    refine Br.f (by simp; (first | lia | omega)) ?_
    repeat k_extra "m"
    refine c_ishandler hK (by (first | lia | omega)) hh' (by (first | lia | omega)) hG hv1 fun σ2 g2 => ?_
    have f1' := g2 _ _ f1
    have f2' := g2 _ _ f2
    simp only [Hn.tv]
    repeat k_extra "m"
    refine CmpWP.inSd f2' hS ?_
    rw [sget_names]
    have hc : (done.map (·.1.name)).contains hn.name = false := by simpa using hnew
    rw [hc]
    repeat k_extra "m"
    refine SetWP.sd f2' (by simp [sizeLine_eq]; (first | lia | omega)) ?_
    rw [sput_names hnew]
    have g3 : Grow σ (σ2.upd kn (.sd ((done.map (·.1.name) ++ [hn.name]).map fun n => (n, V.bool true)))) := (g1.trans g2).upd hkn0
    have tv : ∀ {Q3 : V → Store → Prop} {X3 : XP}, Q3 (.tup (hn.ds.map Deed.v)) (σ2.upd kn (.sd ((done.map (·.1.name) ++ [hn.name]).map fun n => (n, V.bool true)))) → CallWP C A' (.type "tuple") [v] (σ2.upd kn (.sd ((done.map (·.1.name) ++ [hn.name]).map fun n => (n, V.bool true)))) Q3 X3 := by
      intro Q3 X3 hq
      rcases hv0 with ⟨l', z1, z2⟩ | z
      · dsimp only at z1 z2
        subst z1
        exact CallWP.tupOf (.inl (g3 _ _ z2)) (by dsimp only at hds; simp [sizeLine_eq]; (first | lia | omega)) hq
      · exact z.elim
    have f3 : (σ2.upd kn (.sd ((done.map (·.1.name) ++ [hn.name]).map fun n => (n, V.bool true)))) fa = some (.list ((done.map (·.1.hd)).map hv)) := Store.miss (Ne.symm q1) f1'
    repeat k_extra "m"
    refine tv ?_
    repeat k_extra "m"
    refine ⟨lg (g3.upd hfa), done ++ [(hn, v)], rest, by simpa using e1, by simp, g3.upd hfa, ?_, ?_, by k_extra "mget", by k_extra "mget"⟩
    · rw [Store.hit]; simp [hv, Hn.hd]
    · rw [Store.miss q1 Store.hit]; simp
  · rintro ρ σ1 ⟨done, rest, e1, e2, g1, f1, f2, r1, r2⟩
    have e3 : rest = [] := by
      cases rest with
      | nil => rfl
      | cons p r => rw [List.zipIdx_cons] at e2; cases e2
    subst e3
    rw [List.append_nil] at e1
    subst e1
    repeat k_extra "m"
    refine ⟨_, _, ItV.list hh' (.inl f1), ?_⟩
    rw [List.map_map]
    refine ForL.inv (fun p : Hn × V => hv p.1.hd) (fun xs ρ σ2 => (∀ p ∈ xs, p ∈ done) ∧ σ2 = σ1 ∧ ρ.get "found" = some (.ref fa) ∧ ρ.get "known" = some (.ref kn)) ?_ ?_ _ _ _ ⟨fun _ z => z, rfl, r1, r2⟩
    · rintro ⟨hn, v⟩ xs ρ σ2 ⟨hsub, rfl, r1, r2⟩
      have hm := hsub _ (.head _)
      simp only [hv, Hn.hd]
      repeat k_extra "m"
      refine ⟨_, _, ItV.tup hh', ?_⟩
      refine ForL.inv Deed.v (fun ds ρ σ3 => (∀ d ∈ ds, d ∈ hn.ds) ∧ σ3 = σ2 ∧ ρ.get "found" = some (.ref fa) ∧ ρ.get "known" = some (.ref kn)) ?_ ?_ _ _ _ ⟨fun _ z => z, rfl, by k_extra "mget", by k_extra "mget"⟩
      · rintro d ds ρ σ3 ⟨hsub2, rfl, r1, r2⟩
        obtain rfl : d = .hush := (T.good _ hm).ds d (hsub2 d (.head _))
        simp only [Deed.v]
        repeat k_extra "m"
        refine CmpWP.inTS (ns := [Str.ofString "join", Str.ofString "leave"]) (by (first | lia | omega)) (strOk_ofString _) (by simp [strOk_ofString]) ?_
        have e6 : ([Str.ofString "join", Str.ofString "leave"] : List Str).contains (Str.ofString "hush") = false := by decide +kernel
        rw [e6]
        repeat k_extra "m"
        exact ⟨trivial, fun d hd => hsub2 d (.tail _ hd), rfl, by k_extra "mget", by k_extra "mget"⟩
      · rintro ρ σ3 ⟨_, rfl, r1, r2⟩
        repeat k_extra "m"
        refine ⟨.inl ?_, fun p hp => hsub p (.tail _ hp), rfl, r1, r2⟩
        rw [← List.map_map]; exact f1
    · rintro ρ σ2 ⟨_, rfl, r1, r2⟩
      repeat k_extra "m"
      exact h fa _ g1 hfa f1

theorem c_needn (hK : C.K = KL C.w.params) {l l2 : Addr} {ts : List (Str × List V)} {ns : List Str} {Q : V → Store → Prop} (hr : A.depth < recursionLimit) (hh : A.handled = none) (hu : A.units < 6800) (hl : σ l = some (.list (ts.map fun t => V.tup (.str t.1 :: t.2)))) (hl2 : σ l2 = some (.list (ns.map V.str))) (hz : ts.length ≤ 60) (hz2 : ns.length ≤ 60)
    (nd : ns.Nodup) (hsub : ∀ n ∈ ns, n ∈ ts.map (·.1)) (ok : ∀ n ∈ ts.map (·.1), PyData.strOk n = true)
    (h : ∀ a σ', Grow σ σ' → σ a = none → σ' a = some (.list (ns.map V.str)) → Q (.ref a) σ') : CallWP C A (.ref 131) [.ref l, .ref l2] σ Q X := by
  k_extra "mdef2"
  intro fL A' a1 a2 a3
  have hh' : A'.handled = none := a1.trans hh
  repeat k_extra "m"
  refine ⟨_, _, ItV.list hh' (.inl hl), fun L' => ?_⟩
  refine CmpL.pure (fun _ => true) (fun y => match y with | .tup (x :: _) => x | _ => .none) (.inl hl) _ _ ?_ ?_ (by simp [sizeLine_eq]; (first | lia | omega)) ?_
  · intro y hy Q hQ
    repeat k_extra "m"
    exact hQ
  · intro y hy _ Q hQ
    obtain ⟨p, hp, rfl⟩ := List.mem_map.mp hy
    repeat k_extra "m"
    exact hQ
  intro kn hkn
  have e : ([] : List V) ++ List.map (fun y => match y with | .tup (x :: _) => x | _ => .none) (List.filter (fun _ => true) (ts.map fun t => V.tup (.str t.1 :: t.2))) = (ts.map (·.1)).map V.str := by
    rw [List.nil_append, List.filter_eq_self.mpr (fun _ _ => rfl), List.map_map, List.map_map]; rfl
  rw [e]
  repeat k_extra "m"
  intro fa hfa
  obtain ⟨q1, hfa0⟩ := Store.none_ne hfa
  repeat k_extra "m"
  have hl2' : ((σ.upd kn (.list ((ts.map (·.1)).map V.str))).upd fa (.list [])) l2 = some (.list (ns.map V.str)) := Store.at_fresh hfa (Store.at_fresh hkn hl2)
  refine ⟨_, _, ItV.list hh' (.inl hl2'), ?_⟩
  refine ForL.inv V.str (fun xs ρ σ1 => ∃ done, done ++ xs = ns ∧ Grow σ σ1 ∧ σ1 kn = some (.list ((ts.map (·.1)).map V.str)) ∧ σ1 fa = some (.list (done.map V.str)) ∧ ρ.get "known" = some (.ref kn) ∧ ρ.get "found" = some (.ref fa)) ?_ ?_ _ _ _ ⟨[], rfl, (Grow.rfl'.upd hkn).upd hfa0, Store.miss (Ne.symm q1) Store.hit, Store.hit, by k_extra "mget", by k_extra "mget"⟩
  · rintro n xs ρ σ1 ⟨done, e1, g1, f1, f2, r1, r2⟩
    have hm : n ∈ ns := by rw [← e1]; simp
    have hm2 := hsub n hm
    have hnew : n ∉ done := by
      rw [← e1, List.nodup_append] at nd
      exact fun z => nd.2.2 _ z _ (.head _) rfl
    have hlen : done.length ≤ 60 := by rw [← e1] at hz2; simp at hz2; (first | lia | omega)
    have hdok : ∀ x ∈ done, PyData.strOk x = true := fun x hx => ok x (hsub x (by rw [← e1]; simp [hx]))
    repeat k_extra "m"
    refine CmpWP.notInStrs (by (first | lia | omega)) f1 (ok n hm2) ok ?_
    have hc : (ts.map (·.1)).contains n = true := by simpa using hm2
    rw [hc]
    repeat k_extra "m"
    refine CmpWP.inStrs (by (first | lia | omega)) f2 (ok n hm2) hdok ?_
    have hc2 : done.contains n = false := by simpa using hnew
    rw [hc2]
    repeat k_extra "m"
    refine ⟨.inl ((g1.upd hfa0) _ _ hl2), done ++ [n], by simpa using e1, g1.upd hfa0, Store.miss (Ne.symm q1) f1, ?_, by k_extra "mget", by k_extra "mget"⟩
    rw [Store.hit]; simp
  · rintro ρ σ1 ⟨done, e1, g1, f1, f2, r1, r2⟩
    rw [List.append_nil] at e1
    subst e1
    repeat k_extra "m"
    exact h fa _ g1 hfa0 f2

def LS.new (ns : List Str) : LS := ⟨ns, 0, [], [], [], [], [], none⟩
theorem Told.grow {σ σ' : Store} {hs : List (Hn × V)} (T : Told σ hs) (g : Grow σ σ') : Told σ' hs :=
  ⟨fun p hp => (T.at_ p hp).imp (fun ⟨l, a, b⟩ => ⟨l, a, g _ _ b⟩) id, T.good, T.nd, T.len, T.names⟩
theorem Led.addL {σ σ' : Store} {l l2 : List (Addr × O)} (L : Led σ l) (g : Grow σ σ') (nd : (l2.map (·.1)).Nodup) (fr : ∀ p ∈ l2, σ p.1 = none) (at_ : ∀ p ∈ l2, σ' p.1 = some p.2) : Led σ' (l2 ++ l) := by
  refine ⟨?_, fun p hp => ?_⟩
  · rw [List.map_append, List.nodup_append]
    refine ⟨nd, L.nd, fun x hx y hy e => ?_⟩
    subst e
    obtain ⟨p, hp, rfl⟩ := List.mem_map.mp hx
    exact L.free (fr p hp) hy
  · rcases List.mem_append.mp hp with hp | hp
    · exact at_ p hp
    · exact g _ _ (L.at_ p hp)
theorem perm_rev {α : Type} (A : List α) {X X' : List α} (h : X.Perm X') : (A ++ X).Perm (X' ++ A) := List.perm_append_comm.trans (h.append_right A)
theorem c_Loom (hK : C.K = KL C.w.params) (hS : SysOk C) {l l2 : Addr} {hs : List (Hn × V)} {ns : List Str} {rest : List (Addr × O)} {Q : V → Store → Prop} (hr : A.depth + 6 < recursionLimit) (hh : A.handled = none) (hu : A.units < 6700) (T : Told σ hs) (hl : LstAt C σ l (hs.map fun p => p.1.tv p.2))
    (hl2 : σ l2 = some (.list (ns.map V.str))) (hz2 : ns.length ≤ 60) (nd : ns.Nodup) (hsub : ∀ n ∈ ns, n ∈ hs.map (·.1.name)) (ok : ∀ n ∈ hs.map (·.1.name), PyData.strOk n = true) (M : Led σ (tabE :: rest))
    (h : ∀ a σ', LAt σ' a [] (hs.map (·.1)) (LS.new ns) rest → Grow σ σ' → σ a.lo = none → Q (.ref a.lo) σ') : CallWP C A (.ref 313) [.ref l, .ref l2] σ Q X := by
  refine CallWP.cls (by k_extra "mK") (by k_extra "mK") (by k_extra "mK") fun w dx A1 hw hd hne h1 h2 h3 => ?_
  have hr1 : A1.depth < recursionLimit := by (first | lia | omega)
  k_extra "mdefC3"
  intro L A' a1 a2 a3
  have hh' : A'.handled = none := (a1.trans h1).trans hh
  have hne' : dx ≠ w := Ne.symm hne
  have M0 : Led ((σ.upd dx (.sd [])).upd w (.inst 313 dx)) ((w, .inst 313 dx) :: (dx, .sd []) :: tabE :: rest) := (M.new (.sd []) hd).new (.inst 313 dx) (by rw [Store.upd_ne _ _ hne]; exact hw)
  have g0 : Grow σ ((σ.upd dx (.sd [])).upd w (.inst 313 dx)) := (Grow.rfl'.upd hd).upd hw
  generalize hσ0 : (σ.upd dx (.sd [])).upd w (.inst 313 dx) = σ0 at M0 g0 ⊢
  have t1 := M0.get 0 rfl
  have t2 := M0.get 1 rfl
  repeat k_extra "m"
  have lg : LstAt C σ0 l (hs.map fun p => p.1.tv p.2) := by
    rcases hl with z | z
    · exact .inl (g0 _ _ z)
    · exact .inr z
  have ec : ((hs.map (·.1)).map Hn.hd).map hv = (hs.map (·.1.hd)).map hv := by simp [List.map_map, Function.comp_def]
  refine c_needh hK hS (by (first | lia | omega)) hh' (by (first | lia | omega)) (T.grow g0) lg fun ca σ1 g1 hca1 hca2 => ?_
  rw [← ec] at hca2
  have M1 := M0.add g1 hca1 hca2
  have t1 := M1.get 1 rfl
  have t2 := M1.get 2 rfl
  repeat k_extra "m"
  have M2 := M1.set 2 (.sd [("cast", .ref ca)]) rfl
  have G2 : Grow σ (σ1.upd dx (.sd [("cast", .ref ca)])) := (g0.trans g1).upd hd
  generalize hσ2 : Store.upd σ1 dx _ = σ2 at M2 G2 ⊢
  have t1 := M2.get 1 rfl
  have t2 := M2.get 2 rfl
  repeat k_extra "m"
  have e1 : ((hs.map (·.1)).map Hn.hd).map hv = (hs.map fun p => (p.1.name, [V.int p.1.rank, .str p.1.hears, .bool p.1.once, .tup (p.1.ds.map Deed.v)])).map fun t => V.tup (.str t.1 :: t.2) := by
    rw [List.map_map, List.map_map, List.map_map]; rfl
  have e2 : (hs.map fun p => (p.1.name, [V.int p.1.rank, .str p.1.hears, .bool p.1.once, .tup (p.1.ds.map Deed.v)])).map (·.1) = hs.map (·.1.name) := by rw [List.map_map]; rfl
  refine c_needn hK (by (first | lia | omega)) hh' (by (first | lia | omega)) (by rw [← e1]; exact M2.get 0 rfl) (G2 _ _ hl2) (by simp; have := T.len; (first | lia | omega)) hz2 nd (by rw [e2]; exact hsub) (by rw [e2]; exact ok) fun po σ3 g3 hpo1 hpo2 => ?_
  have M3 := M2.add g3 hpo1 hpo2
  have t1 := M3.get 2 rfl
  have t2 := M3.get 3 rfl
  repeat k_extra "m"
  have M4 := (M3.set 3 (.sd [("cast", .ref ca), ("posts", .ref po)]) rfl).set 3 (.sd [("cast", .ref ca), ("posts", .ref po), ("time", .int 0)]) rfl
  have G4 := ((G2.trans g3).upd (a := dx) (o := .sd [("cast", .ref ca), ("posts", .ref po)]) hd).upd (a := dx) (o := .sd [("cast", .ref ca), ("posts", .ref po), ("time", .int 0)]) hd
  intro ev hev
  generalize hσ4 : Store.upd (Store.upd σ3 dx _) dx _ = σ4 at M4 G4 hev ⊢
  have M5 := M4.new (.list []) hev
  have G5 := G4.fresh (o := .list []) hev
  generalize hσ5 : Store.upd σ4 ev _ = σ5 at M5 G5 ⊢
  have t1 := M5.get 3 rfl
  have t2 := M5.get 4 rfl
  repeat k_extra "m"
  have M6 := M5.set 4 (.sd [("cast", .ref ca), ("posts", .ref po), ("time", .int 0), ("events", .ref ev)]) rfl
  have G6 := G5.upd (a := dx) (o := .sd [("cast", .ref ca), ("posts", .ref po), ("time", .int 0), ("events", .ref ev)]) hd
  intro lo hlo
  generalize hσ6 : Store.upd σ5 dx _ = σ6 at M6 G6 hlo ⊢
  have M7 := M6.new (.list []) hlo
  have G7 := G6.fresh (o := .list []) hlo
  generalize hσ7 : Store.upd σ6 lo _ = σ7 at M7 G7 ⊢
  have t1 := M7.get 4 rfl
  have t2 := M7.get 5 rfl
  repeat k_extra "m"
  have M8 := M7.set 5 (.sd [("cast", .ref ca), ("posts", .ref po), ("time", .int 0), ("events", .ref ev), ("log", .ref lo)]) rfl
  have G8 := G7.upd (a := dx) (o := .sd [("cast", .ref ca), ("posts", .ref po), ("time", .int 0), ("events", .ref ev), ("log", .ref lo)]) hd
  generalize hσ8 : Store.upd σ7 dx _ = σ8 at M8 G8 ⊢
  refine c_Waits hK (by (first | lia | omega)) hh' fun wa wd nn ff σ9 g9 z1 z2 z3 z4 W9 => ?_
  obtain ⟨n1, n2, n3, n4, n5⟩ := W9.ne
  have M9 := M8.addL (l2 := [(wa, .inst 184 wd), (wd, .sd [("near", .ref nn), ("far", .ref ff)]), (nn, .list []), (ff, .list [])]) g9 (by simp [n1, n2, n3, n4, n5, W9.nf]) (by simp [z1, z2, z3, z4]) (by
    simp only [List.mem_cons, List.not_mem_nil, or_false]
    rintro p (rfl | rfl | rfl | rfl)
    · exact W9.hw
    · exact W9.hd
    · exact W9.hn
    · exact W9.hf)
  have G9 := G8.trans g9
  have t1 := M9.get 8 rfl
  have t2 := M9.get 9 rfl
  repeat k_extra "m"
  have M10 := M9.set 9 (.sd [("cast", .ref ca), ("posts", .ref po), ("time", .int 0), ("events", .ref ev), ("log", .ref lo), ("waits", .ref wa)]) rfl
  have G10 := G9.upd (a := dx) (o := .sd [("cast", .ref ca), ("posts", .ref po), ("time", .int 0), ("events", .ref ev), ("log", .ref lo), ("waits", .ref wa)]) hd
  intro fr hfr
  generalize hσ10 : Store.upd σ9 dx _ = σ10 at M10 G10 hfr ⊢
  have M11 := M10.new (.list []) hfr
  have G11 := G10.fresh (o := .list []) hfr
  generalize hσ11 : Store.upd σ10 fr _ = σ11 at M11 G11 ⊢
  have t1 := M11.get 9 rfl
  have t2 := M11.get 10 rfl
  repeat k_extra "m"
  refine h ⟨w, dx, ca, po, ev, lo, wa, wd, nn, ff, fr⟩ _ ⟨?_, rfl⟩ ((G11.upd hd).upd hd) hw
  have M12 := (M11.set 10 (.sd [("cast", .ref ca), ("posts", .ref po), ("time", .int 0), ("events", .ref ev), ("log", .ref lo), ("waits", .ref wa), ("frames", .ref fr)]) rfl).set 10 (.sd [("cast", .ref ca), ("posts", .ref po), ("time", .int 0), ("events", .ref ev), ("log", .ref lo), ("waits", .ref wa), ("frames", .ref fr), ("fresh", .none)]) rfl
  exact M12.perm (List.Perm.append_right rest (List.Perm.symm (perm_rev [_] (perm_rev [_, _, _, _] (perm_rev [_] (perm_rev [_] (perm_rev [_] (perm_rev [_] (perm_rev [_, _] (.refl [_])))))))))) 

theorem c_told (hK : C.K = KL C.w.params) {l : Addr} {cs : List Int} {i : Nat} {Q : V → Store → Prop} (hr : A.depth < recursionLimit) (hh : A.handled = none) (hl : LstAt C σ l (cs.map V.int)) (hz : cs.length ≤ 1000) (hi : i ≤ 1000) (h : Q (.int (cs.getD i 0)) σ) : CallWP C A (.ref 324) [.ref l, .int i] σ Q X := by
  k_extra "mdef2"
  intro L A' a1 a2 a3
  have hh' : A'.handled = none := a1.trans hh
  repeat k_extra "m"
  by_cases q : i < cs.length
  · refine Br.f (by simp; (first | lia | omega)) ?_
    repeat k_extra "m"
    refine ItemWP.list (y := .int (cs.getD i 0)) hl (by (first | lia | omega)) (by (first | lia | omega)) (by simp [q]) ?_
    repeat k_extra "m"
    exact h
  · refine Br.t (by simp; (first | lia | omega)) ?_
    repeat k_extra "m"
    have e : cs.getD i 0 = 0 := by simp [Nat.le_of_not_lt q]
    rw [e] at h; exact h

def letS (j : Nat) : Str := ⟨#[97 + j]⟩
theorem let26 : ∀ j, j < 26 → (Str.ofString "abcdefghijklmnopqrstuvwxyz").cps[j]? = some (97 + j) := by decide +kernel
theorem len26 : (Str.ofString "abcdefghijklmnopqrstuvwxyz").length = 26 := by decide +kernel
theorem ItemWP.letter {i : Int} {Q : V → Store → Prop} (h0 : 0 ≤ i) (h1 : i < 26) (h : Q (.str (letS i.toNat)) σ) : ItemWP C A (.str (Str.ofString "abcdefghijklmnopqrstuvwxyz")) (.int i) σ Q X := by
  refine ItemWP.str (by (first | lia | omega)) (by (first | lia | omega)) ?_ h
  rw [len26, seqIndex_of h0 (by (first | lia | omega))]
  exact let26 _ (by (first | lia | omega))
theorem letS_len (j : Nat) : (letS j).length = 1 := rfl
theorem str_len_append (x y : Str) : (x ++ y).length = x.length + y.length := by
  show (x.cps ++ y.cps).size = _
  simp [Str.length]
theorem inS_abc : ∀ j, j < 26 → inS (Str.ofString "abcdefghijklmnopqrstuvwxyz") ⟨#[97 + j]⟩ = true := by decide +kernel
theorem okS_of {x : Str} (h : ∀ c ∈ x.cps.toList, 97 ≤ c ∧ c < 123) : okS x = true := by
  unfold okS
  rw [List.all_map, List.all_eq_true]
  intro c hc
  obtain ⟨a, b⟩ := h c hc
  obtain ⟨j, rfl⟩ : ∃ j, c = 97 + j := ⟨c - 97, by (first | lia | omega)⟩
  exact inS_abc j (by (first | lia | omega))
abbrev aheadS : Str := Str.ofString "zyxwvutsrq"
abbrev behindS : Str := Str.ofString "abcdefghij"
theorem ahead_len : aheadS.length = 10 := by decide +kernel
theorem behind_len : behindS.length = 10 := by decide +kernel
theorem ahead_ok : ∀ c ∈ aheadS.cps.toList, 97 ≤ c ∧ c < 123 := by decide +kernel
theorem behind_ok : ∀ c ∈ behindS.cps.toList, 97 ≤ c ∧ c < 123 := by decide +kernel
/-- the name of handler k of c -/
def nameN (c k : Nat) : Str := Txt.slice (Txt.slice aheadS none (some ((c * 7 % 11 : Nat) : Int)) ++ (letS (k * 7 % 26) ++ letS (k / 26)) ++ Txt.slice behindS none (some ((c * 5 % 11 : Nat) : Int))) none (some ((12 : Nat) : Int))
theorem strLen (x : Str) : x.length = x.cps.toList.length := by simp [Str.length]
theorem slice_take (x : Str) (k : Nat) : (Txt.slice x none (some (k : Int))).cps.toList = x.cps.toList.take k := by
  by_cases h : k ≤ x.length
  · exact slice_upto x k h
  · have e : Builtin.Str.strSliceIndices none (some (k : Int)) 1 x.length = (List.range x.length).map fun i => 0 + i := by
      unfold Builtin.Str.strSliceIndices
      have h1 : ¬ ((k : Int) < 0) := by (first | lia | omega)
      have h2 : max 0 (min (k : Int) (x.length : Int)) = ((x.length : Nat) : Int) := by (first | lia | omega)
      simp only [h1, if_false, show (1 : Int) > 0 by decide, if_true, h2]
      have := sliceRange_one 0 x.length
      simpa using this
    rw [slice_cps x none (some (k : Int)) 0 x.length (by (first | lia | omega)) e, List.drop_zero, strLen, List.take_of_length_le (Nat.le_refl _), List.take_of_length_le (by rw [← strLen]; (first | lia | omega))]
theorem nameN_cps (c k : Nat) : (nameN c k).cps.toList = (aheadS.cps.toList.take (c * 7 % 11) ++ [97 + k * 7 % 26, 97 + k / 26] ++ behindS.cps.toList.take (c * 5 % 11)).take 12 := by
  unfold nameN
  rw [slice_take, cps_append, cps_append, slice_take, slice_take, cps_append]
  rfl
theorem nameN_cut (c k : Nat) : (nameN c k).cps.toList = aheadS.cps.toList.take (c * 7 % 11) ++ ([97 + k * 7 % 26, 97 + k / 26] ++ (behindS.cps.toList.take (c * 5 % 11)).take (12 - (c * 7 % 11 + 2))) := by
  have h1 := ahead_len
  rw [strLen] at h1
  have m : c * 7 % 11 ≤ 10 := Nat.le_of_lt_succ (Nat.mod_lt _ (by decide))
  rw [nameN_cps, List.append_assoc]
  generalize c * 7 % 11 = a at m ⊢
  generalize c * 5 % 11 = b
  generalize 97 + k * 7 % 26 = u
  generalize 97 + k / 26 = w
  have h2 : (aheadS.cps.toList.take a).length = a := by rw [List.length_take, h1]; exact Nat.min_eq_left m
  have t1 : (aheadS.cps.toList.take a).take 12 = aheadS.cps.toList.take a := List.take_of_length_le (by rw [h2]; exact Nat.le_trans m (by decide))
  have t2 : ([u, w] ++ behindS.cps.toList.take b).take (12 - a) = [u, w] ++ (behindS.cps.toList.take b).take (12 - (a + 2)) := by
    rw [List.take_append, List.take_of_length_le (l := [u, w]) (Nat.le_sub_of_add_le (show 2 + a ≤ 12 by (first | lia | omega))), show 12 - a - [u, w].length = 12 - (a + 2) from Nat.sub_sub ..]
  rw [List.take_append, t1, h2, t2]
theorem nameN_inj {c j k : Nat} (hj : j < 182) (hk : k < 182) (h : nameN c j = nameN c k) : j = k := by
  have e := congrArg (fun x : Str => x.cps.toList) h
  simp only [nameN_cut] at e
  have e2 := List.append_cancel_left e
  have e3 := List.append_cancel_right e2
  simp only [List.cons.injEq, and_true] at e3
  obtain ⟨e4, e5⟩ := e3
  (first | lia | omega)
theorem nameN_isW (c k : Nat) (hk : k < 676) : isW (nameN c k) = true := by
  have h1 := ahead_len
  rw [strLen] at h1
  have l : (nameN c k).length = c * 7 % 11 + 2 + min (12 - (c * 7 % 11 + 2)) (min (c * 5 % 11) 10) := by
    have h2 := behind_len
    rw [strLen] at h2
    rw [strLen, nameN_cut]
    have m : c * 7 % 11 ≤ 10 := Nat.le_of_lt_succ (Nat.mod_lt _ (by decide))
    rw [List.length_append, List.length_append, List.length_take, List.length_take, List.length_take, h1, h2, Nat.min_eq_left m, Nat.add_assoc]
    rfl
  have o : okS (nameN c k) = true := by
    refine okS_of fun x hx => ?_
    rw [nameN_cut] at hx
    simp only [List.mem_append, List.mem_cons, List.not_mem_nil, or_false] at hx
    rcases hx with h | (h | h) | h
    · exact ahead_ok x (List.mem_of_mem_take h)
    · (first | lia | omega)
    · (first | lia | omega)
    · exact behind_ok x (List.mem_of_mem_take (List.mem_of_mem_take h))
  have m : c * 7 % 11 ≤ 10 := Nat.le_of_lt_succ (Nat.mod_lt _ (by decide))
  unfold isW
  rw [o, l]
  simp only [Bool.and_true, Bool.and_eq_true, decide_eq_true_eq]
  generalize c * 7 % 11 = a at m ⊢
  generalize min (c * 5 % 11) 10 = b
  (first | lia | omega)
theorem nameN_ok (c k : Nat) (hk : k < 676) : PyData.strOk (nameN c k) = true := by
  rw [strOk_iff]
  intro x hx
  rw [nameN_cut] at hx
  simp only [List.mem_append, List.mem_cons, List.not_mem_nil, or_false] at hx
  rcases hx with h | (h | h) | h
  · have := ahead_ok x (List.mem_of_mem_take h); (first | lia | omega)
  · (first | lia | omega)
  · (first | lia | omega)
  · have := behind_ok x (List.mem_of_mem_take (List.mem_of_mem_take h)); (first | lia | omega)
theorem c_name2 (hK : C.K = KL C.w.params) {c k : Nat} {Q : V → Store → Prop} (hr : A.depth < recursionLimit) (hh : A.handled = none) (hk : k < 676) (hc : c ≤ 1000) (h : Q (.str (nameN c k)) σ) : CallWP C A (.ref 331) [.int k, .int c] σ Q X := by
  k_extra "mdef2"
  intro L A' a1 a2 a3
  have hh' : A'.handled = none := a1.trans hh
  have b0 : ((k : Int) * 7).fmod 26 = ((k * 7 % 26 : Nat) : Int) := by rw [Int.fmod_eq_emod_of_nonneg _ (by (first | lia | omega))]; (first | lia | omega)
  have b1 : (k : Int).fdiv 26 = ((k / 26 : Nat) : Int) := by rw [Int.fdiv_eq_ediv_of_nonneg _ (by (first | lia | omega))]; (first | lia | omega)
  have b2 : ((c : Int) * 7).fmod 11 = ((c * 7 % 11 : Nat) : Int) := by rw [Int.fmod_eq_emod_of_nonneg _ (by (first | lia | omega))]; (first | lia | omega)
  have b3 : ((c : Int) * 5).fmod 11 = ((c * 5 % 11 : Nat) : Int) := by rw [Int.fmod_eq_emod_of_nonneg _ (by (first | lia | omega))]; (first | lia | omega)
  repeat k_extra "m"
  rw [b0]
  refine ItemWP.letter (by (first | lia | omega)) (by (first | lia | omega)) ?_
  repeat k_extra "m"
  rw [b1]
  refine ItemWP.letter (by (first | lia | omega)) (by (first | lia | omega)) ?_
  refine BinWP.add_str ?_ (by simp [letS_len, sizeLine_eq])
  repeat k_extra "m"
  refine ⟨_, rfl, ?_⟩
  rw [b2]
  refine SliceWP.str (by rw [sizeLine_eq, ahead_len]; (first | lia | omega)) ?_
  repeat k_extra "m"
  have l1 : (Txt.slice (Str.ofString "zyxwvutsrq") none (some ((c * 7 % 11 : Nat) : Int))).length ≤ 10 := by
    have := Txt.slice_le aheadS none (some ((c * 7 % 11 : Nat) : Int)); rw [ahead_len] at this; exact this
  have l2 : (Txt.slice (Str.ofString "abcdefghij") none (some ((c * 5 % 11 : Nat) : Int))).length ≤ 10 := by
    have := Txt.slice_le behindS none (some ((c * 5 % 11 : Nat) : Int)); rw [behind_len] at this; exact this
  refine BinWP.add_str ?_ (by rw [str_len_append, letS_len, letS_len, sizeLine_eq]; (first | lia | omega))
  repeat k_extra "m"
  refine ⟨_, rfl, ?_⟩
  rw [b3]
  refine SliceWP.str (by rw [sizeLine_eq, behind_len]; (first | lia | omega)) ?_
  refine BinWP.add_str ?_ (by rw [str_len_append, str_len_append, letS_len, letS_len, sizeLine_eq]; (first | lia | omega))
  repeat k_extra "m"
  refine ⟨_, rfl, ?_⟩
  refine SliceWP.str ?_ ?_
  · simp only [sizeLine_eq, str_len_append, letS_len]; (first | lia | omega)
  repeat k_extra "m"
  have e5 : (((k / 26 : Nat) : Int)).toNat = k / 26 := by (first | lia | omega)
  have e6 : (((k * 7 % 26 : Nat) : Int)).toNat = k * 7 % 26 := by (first | lia | omega)
  rw [e5, e6]
  exact h

theorem c_standing (hK : C.K = KL C.w.params) {a : LA} {fs : List FA} {cast : List Hn} {s : LS} {rest : List (Addr × O)} {Q : V → Store → Prop} (hr : A.depth < recursionLimit) (hh : A.handled = none) (L : LAt σ a fs cast s rest) (Z : s.posts.length ≤ 60)
    (h : ∀ x σ', σ x = none → LAt σ' a fs cast s ((x, .list (s.posts.map V.str)) :: rest) → Grow σ σ' → Q (.ref x) σ') : CallWP C A (.ref 303) [.ref a.lo] σ Q X := by
  have g1 := L.led.get 1 rfl
  have g2 := L.led.get 2 rfl
  have g4 := L.led.get 4 rfl
  k_extra "mdef1"
  intro fL A' a1 a2 a3
  have hh' : A'.handled = none := a1.trans hh
  repeat k_extra "m"
  intro x hx
  repeat k_extra "m"
  refine h x _ hx ⟨?_, L.len⟩ (Grow.rfl'.fresh hx)
  exact (L.led.new _ hx).perm (List.perm_middle (l₁ := tabE :: fp a fs cast s))

theorem c_around (hK : C.K = KL C.w.params) {a : LA} {cast : List Hn} {s : LS} {rest : List (Addr × O)} {Q : V → Store → Prop} (hr : A.depth < recursionLimit) (hh : A.handled = none) (L : LAt σ a [] cast s rest) (Z : s.Small)
    (h : ∀ x σ', σ x = none → LAt σ' a [] cast s ((x, .list ((s.frames.map (·.num)).reverse.map V.int)) :: rest) → Grow σ σ' → Q (.ref x) σ') : CallWP C A (.ref 296) [.ref a.lo] σ Q X := by
  have e0 : s.frames = [] := List.length_eq_zero_iff.mp L.len.symm
  have g1 := L.led.get 1 rfl
  have g2 := L.led.get 2 rfl
  have g11 : σ a.fr = some (.list []) := L.led.get 11 rfl
  k_extra "mdef1"
  intro fL A' a1 a2 a3
  have hh' : A'.handled = none := a1.trans hh
  repeat k_extra "m"
  refine ⟨_, _, ItV.list hh' (.inl g11), fun L' => ?_⟩
  unfold CmpL
  intro x hx
  repeat k_extra "m"
  refine h x _ hx ?_ (Grow.rfl'.fresh hx)
  rw [e0]
  exact ⟨(L.led.new _ hx).perm (List.perm_middle (l₁ := tabE :: fp a [] cast s)), L.len⟩

def LS.idle (s : LS) : Bool := s.fresh.isNone && s.frames.isEmpty && s.near.isEmpty && s.far.isEmpty
theorem c_idle (hK : C.K = KL C.w.params) {a : LA} {cast : List Hn} {ns : List Str} {rest : List (Addr × O)} {Q : V → Store → Prop} (hr : A.depth + 1 < recursionLimit) (hh : A.handled = none) (L : LAt σ a [] cast (LS.new ns) rest) (Z : (LS.new ns).Small) (h64 : (LS.new ns).far.length < 2)
    (h : ∀ σ', Grow σ σ' → Q (.bool (LS.new ns).idle) σ') : CallWP C A (.ref 310) [.ref a.lo] σ Q X := by
  have hr0 : A.depth < recursionLimit := by (first | lia | omega)
  have g1 := L.led.get 1 rfl
  have g2 := L.led.get 2 rfl
  dsimp only [LS.new, optV] at g2
  have g7 := L.led.get 7 rfl
  have g8 := L.led.get 8 rfl
  have g11 : σ a.fr = some (.list []) := L.led.get 11 rfl
  k_extra "mdef1"
  intro fL A' a1 a2 a3
  have hh' : A'.handled = none := a1.trans hh
  repeat k_extra "m"
  refine c_lineup hK (by (first | lia | omega)) hh' L.wat (by simp [LS.new]) h64 fun x σ2 ps g hx hp ho hl => ?_
  obtain rfl : ps = [] := List.Perm.eq_nil hp
  have hl : σ2 x = some (.list []) := hl
  repeat k_extra "m"
  exact h _ g

/-- waiting(), where nothing is fresh -/
theorem c_waiting (hK : C.K = KL C.w.params) {a : LA} {fs : List FA} {cast : List Hn} {s : LS} {rest : List (Addr × O)} {Q : V → Store → Prop} (hr : A.depth + 1 < recursionLimit) (hh : A.handled = none) (L : LAt σ a fs cast s rest) (Z : s.Small) (hf : s.fresh = none) (h64 : s.far.length < 2)
    (h : ∀ (x : Addr) (σ' : Store) (ps : List (Int × Int)), Grow σ σ' → σ x = none → ps.Perm s.far → ps.Pairwise (fun p q => lexlt q p = false) → σ' x = some (.list ((s.near ++ ps.map (·.2)).map V.int)) → Q (.ref x) σ') : CallWP C A (.ref 291) [.ref a.lo] σ Q X := by
  have hr0 : A.depth < recursionLimit := by (first | lia | omega)
  have g1 := L.led.get 1 rfl
  have g2 := L.led.get 2 rfl
  have g7 := L.led.get 7 rfl
  have g8 := L.led.get 8 rfl
  rw [hf] at g2
  dsimp only [optV] at g2
  k_extra "mdef1"
  intro fL A' a1 a2 a3
  have hh' : A'.handled = none := a1.trans hh
  repeat k_extra "m"
  refine c_lineup hK (by (first | lia | omega)) hh' L.wat (by have := Z.ne; (first | lia | omega)) h64 fun x σ2 ps g hx hp ho hl => ?_
  repeat k_extra "m"
  exact h x σ2 ps g hx hp ho hl

section
variable {a : LA} {fs : List FA} {cast : List Hn} {s : LS} {rest : List (Addr × O)}
theorem LAt.new (L : LAt σ a fs cast s rest) {x : Addr} (o : O) (hx : σ x = none) : LAt (σ.upd x o) a fs cast s ((x, o) :: rest) := ⟨(L.led.new o hx).perm (List.perm_middle (l₁ := tabE :: fp a fs cast s)), L.len⟩
theorem LAt.drop {p : Addr × O} (L : LAt σ a fs cast s (p :: rest)) : LAt σ a fs cast s rest := ⟨L.led.sub (((List.Sublist.refl (fp a fs cast s)).append ((List.Sublist.refl rest).cons p)).cons_cons tabE), L.len⟩
theorem LAt.setR {r1 r2 : List (Addr × O)} {x : Addr} {o : O} (L : LAt σ a fs cast s (r1 ++ (x, o) :: r2)) (o' : O) : LAt (σ.upd x o') a fs cast s (r1 ++ (x, o') :: r2) := by
  refine ⟨?_, L.len⟩
  have e : ∀ y : O, tabE :: (fp a fs cast s ++ (r1 ++ (x, y) :: r2)) = (tabE :: (fp a fs cast s ++ r1)) ++ (x, y) :: r2 := fun y => by simp
  have M := L.led
  rw [e] at M ⊢
  exact M.setS o'
theorem LAt.getR (L : LAt σ a fs cast s rest) (n : Nat) {x : Addr} {o : O} (h : rest[n]? = some (x, o)) : σ x = some o := L.led.at_ (x, o) (.tail _ (List.mem_append_right _ (List.mem_of_getElem? h)))
end

/-- its names can be laid -/
def Row.nok : Row → Prop
  | .call _ h | .join _ h | .leave _ h => PyData.strOk h = true
  | _ => True
def rowD : Row → PyData
  | .send n => .tuple [.str (Str.ofString "send"), .int n]
  | .beg n t => .tuple [.str (Str.ofString "begin"), .int n, .int t]
  | .fin n => .tuple [.str (Str.ofString "end"), .int n]
  | .call n h => .tuple [.str (Str.ofString "call"), .int n, .str h]
  | .cancel n ns => .tuple [.str (Str.ofString "cancel"), .int n, .tuple (ns.map PyData.int)]
  | .join n h => .tuple [.str (Str.ofString "join"), .int n, .str h]
  | .leave n h => .tuple [.str (Str.ofString "leave"), .int n, .str h]
  | .hush n => .tuple [.str (Str.ofString "hush"), .int n]
  | .make m n => .tuple [.str (Str.ofString "make"), .int m, .int n]
theorem row_dr (r : Row) : DR C σ r.v (rowD r) := by
  cases r with
  | cancel n ns => exact .tup (.cons (.str _) (.cons (.int _) (.cons (.tup (DRs.map fun _ _ => .int _)) .nil)))
  | send n => exact .tup (.cons (.str _) (.cons (.int _) .nil))
  | fin n => exact .tup (.cons (.str _) (.cons (.int _) .nil))
  | hush n => exact .tup (.cons (.str _) (.cons (.int _) .nil))
  | beg n t => exact .tup (.cons (.str _) (.cons (.int _) (.cons (.int _) .nil)))
  | make n t => exact .tup (.cons (.str _) (.cons (.int _) (.cons (.int _) .nil)))
  | call n t => exact .tup (.cons (.str _) (.cons (.int _) (.cons (.str _) .nil)))
  | join n t => exact .tup (.cons (.str _) (.cons (.int _) (.cons (.str _) .nil)))
  | leave n t => exact .tup (.cons (.str _) (.cons (.int _) (.cons (.str _) .nil)))
theorem row_lay {r : Row} (h : r.nok) : (rowD r).canLay0 = true ∧ (rowD r).depth ≤ 4 := by
  have s := strOk_ofString
  cases r with
  | cancel n ns =>
    have a := canLayAll_map (g := PyData.int) (xs := ns) fun _ _ => by simp [PyData.canLay0]
    have b := depthAll_map (k := 1) (g := PyData.int) (xs := ns) (fun _ _ => by simp [PyData.depth])
    refine ⟨by simp [rowD, PyData.canLay0, PyData.canLayAll0, s, a], ?_⟩
    simp only [rowD, PyData.depth, PyData.depthAll]; (first | lia | omega)
  | call n t => exact ⟨by simp [rowD, PyData.canLay0, PyData.canLayAll0, s, show PyData.strOk t = true from h], by simp [rowD, PyData.depth, PyData.depthAll]⟩
  | join n t => exact ⟨by simp [rowD, PyData.canLay0, PyData.canLayAll0, s, show PyData.strOk t = true from h], by simp [rowD, PyData.depth, PyData.depthAll]⟩
  | leave n t => exact ⟨by simp [rowD, PyData.canLay0, PyData.canLayAll0, s, show PyData.strOk t = true from h], by simp [rowD, PyData.depth, PyData.depthAll]⟩
  | _ => exact ⟨by simp [rowD, PyData.canLay0, PyData.canLayAll0, s], by simp [rowD, PyData.depth, PyData.depthAll]⟩
/-- two lists of the same rows -/
theorem eq_rows {l m : Addr} {rs : List Row} {Q : V → Store → Prop} (hu : A.units < 9000) (h1 : σ l = some (.list (rs.map Row.v))) (h2 : σ m = some (.list (rs.map Row.v))) (hn : ∀ r ∈ rs, r.nok) (h : Q (.bool true) σ) : CmpWP C A .Eq (.ref l) (.ref m) σ Q X := by
  refine CmpWP.eqSame (d := .list (rs.map rowD)) (.list (.inl h1) (DRs.map fun r _ => row_dr r)) (.list (.inl h2) (DRs.map fun r _ => row_dr r)) ?_ ?_ h
  · simp only [PyData.canLay0]; exact canLayAll_map fun r hr => (row_lay (hn r hr)).1
  · have := depthAll_map (k := 4) (g := rowD) (xs := rs) fun r hr => (row_lay (hn r hr)).2
    simp only [PyData.depth, cLine]; (first | lia | omega)
def optD : Option Int → PyData
  | none => .none
  | some n => .int n
def evD (e : Evt) : PyData := .tuple [.str e.word, optD e.maker, .str e.road, .int e.due]
theorem eq_strs {l m : Addr} {rs : List Str} {Q : V → Store → Prop} (hu : A.units < 9000) (h1 : σ l = some (.list (rs.map V.str))) (h2 : σ m = some (.list (rs.map V.str))) (hn : ∀ r ∈ rs, PyData.strOk r = true) (h : Q (.bool true) σ) : CmpWP C A .Eq (.ref l) (.ref m) σ Q X := by
  refine CmpWP.eqSame (d := .list (rs.map PyData.str)) (.list (.inl h1) (DRs.map fun r _ => .str _)) (.list (.inl h2) (DRs.map fun r _ => .str _)) ?_ ?_ h
  · simp only [PyData.canLay0]; exact canLayAll_map fun r hr => by simpa [PyData.canLay0] using hn r hr
  · have := depthAll_map (k := 1) (g := PyData.str) (xs := rs) (fun r hr => by simp [PyData.depth])
    simp only [PyData.depth, cLine]; (first | lia | omega)
theorem ne_strs {l m : Addr} {rs : List Str} {Q : V → Store → Prop} (hu : A.units < 9000) (h1 : σ l = some (.list (rs.map V.str))) (h2 : σ m = some (.list (rs.map V.str))) (hn : ∀ r ∈ rs, PyData.strOk r = true) (h : Q (.bool false) σ) : CmpWP C A .NotEq (.ref l) (.ref m) σ Q X := by
  refine CmpWP.neSame (d := .list (rs.map PyData.str)) (.list (.inl h1) (DRs.map fun r _ => .str _)) (.list (.inl h2) (DRs.map fun r _ => .str _)) ?_ ?_ h
  · simp only [PyData.canLay0]; exact canLayAll_map fun r hr => by simpa [PyData.canLay0] using hn r hr
  · have := depthAll_map (k := 1) (g := PyData.str) (xs := rs) (fun r hr => by simp [PyData.depth])
    simp only [PyData.depth, cLine]; (first | lia | omega)
theorem eq_nil {l m : Addr} {Q : V → Store → Prop} (hu : A.units < 9000) (h1 : σ l = some (.list [])) (h2 : σ m = some (.list [])) (h : Q (.bool true) σ) : CmpWP C A .Eq (.ref l) (.ref m) σ Q X :=
  eq_strs (rs := []) hu h1 h2 (fun _ z => by cases z) h
theorem ne_nil {l m : Addr} {Q : V → Store → Prop} (hu : A.units < 9000) (h1 : σ l = some (.list [])) (h2 : σ m = some (.list [])) (h : Q (.bool false) σ) : CmpWP C A .NotEq (.ref l) (.ref m) σ Q X :=
  ne_strs (rs := []) hu h1 h2 (fun _ z => by cases z) h

/-- one is heard in one order -/
theorem heard_ex (cast : List Hn) (ps : List Str) (w : Str) : ∃ out, Heard (cast.map Hn.hd) ps w out := by
  have key : ∀ (f : Nat → Int) (m : Nat), ∃ p : List Nat, p.Perm (List.range m) ∧ p.Pairwise (slt fun i j => decide (f i < f j)) := by
    intro f m
    have p1 := List.mergeSort_perm (List.range m) fun i j => decide (f i < f j ∨ (f i = f j ∧ i ≤ j))
    have p2 := List.pairwise_mergeSort (le := fun i j => decide (f i < f j ∨ (f i = f j ∧ i ≤ j))) (fun a b c h1 h2 => by simp only [decide_eq_true_eq] at *; (first | lia | omega)) (fun a b => by simp only [Bool.or_eq_true, decide_eq_true_eq]; (first | lia | omega)) (List.range m)
    refine ⟨_, p1, (p2.and (p1.nodup_iff.mpr List.nodup_range)).imp fun {i j} h => ?_⟩
    obtain ⟨h1, h2⟩ := h
    unfold slt
    simp only [decide_eq_true_eq, decide_eq_false_iff_not] at h1 ⊢
    (first | lia | omega)
  obtain ⟨p, h1, h2⟩ := key (fun i => rk (cast.map Hn.hd) ((foundF (cast.map Hn.hd) ps w).getD i Str.empty)) (foundF (cast.map Hn.hd) ps w).length
  exact ⟨_, p, h1, h2, rfl⟩
theorem heard_spec (cast : List Hn) (ps : List Str) (w : Str) : Heard (cast.map Hn.hd) ps w (heard cast ps w) := by
  unfold heard
  rw [dif_pos (heard_ex cast ps w)]
  exact Classical.choose_spec (heard_ex cast ps w)

/- law 05: names that are told, in order -/
/-- 0: they stand; 1: the first that does not is a stranger; 2: is told twice -/
def dueV (kn : List Str) : List Str → List V → Nat
  | _, [] => 0
  | seen, .str x :: vs => if kn.contains x then if seen.contains x then 2 else dueV kn (seen ++ [x]) vs else 1
  | _, _ :: _ => 1
theorem dueV_str (kn seen : List Str) (x : Str) (vs : List V) : dueV kn seen (.str x :: vs) = if kn.contains x then if seen.contains x then 2 else dueV kn (seen ++ [x]) vs else 1 := rfl
/-- no text, and like no text -/
def OddV (σ : Store) (v : V) : Prop := v = .none ∨ (∃ i, v = .int i) ∨ (∃ xs, v = .tup xs) ∨ (∃ l xs, v = .ref l ∧ σ l = some (.list xs)) ∨ ∃ l es, v = .ref l ∧ σ l = some (.sd es)
theorem OddV.grow {σ σ' : Store} {v : V} (h : OddV σ v) (g : Grow σ σ') : OddV σ' v := by
  rcases h with h | h | h | ⟨l, xs, h, e⟩ | ⟨l, es, h, e⟩
  · exact .inl h
  · exact .inr (.inl h)
  · exact .inr (.inr (.inl h))
  · exact .inr (.inr (.inr (.inl ⟨l, xs, h, g _ _ e⟩)))
  · exact .inr (.inr (.inr (.inr ⟨l, es, h, g _ _ e⟩)))
theorem OddV.eqS {v : V} (hu : A.units < 9000) (h : OddV σ v) (n : Str) : EqS C A σ n v false := by
  rcases h with rfl | ⟨i, rfl⟩ | ⟨xs, rfl⟩ | ⟨l, xs, rfl, e⟩ | ⟨l, es, rfl, e⟩
  · exact EqS.none
  · exact EqS.int
  · exact EqS.tup hu
  · exact EqS.list hu e
  · exact EqS.dict hu e
theorem OddV.due {v : V} (h : OddV σ v) (kn seen : List Str) (vs : List V) : dueV kn seen (v :: vs) = 1 := by
  rcases h with rfl | ⟨i, rfl⟩ | ⟨xs, rfl⟩ | ⟨l, xs, rfl, e⟩ | ⟨l, es, rfl, e⟩ <;> rfl
/-- a told name: a text that can be laid, or something odd -/
def NmOk (σ : Store) (v : V) : Prop := (∃ x, v = .str x ∧ PyData.strOk x = true) ∨ OddV σ v
theorem NmOk.grow {σ σ' : Store} {v : V} (h : NmOk σ v) (g : Grow σ σ') : NmOk σ' v := by
  rcases h with h | h
  · exact .inl h
  · exact .inr (h.grow g)
theorem due0 {σ : Store} {kn : List Str} : ∀ {vs : List V} {seen : List Str}, (∀ v ∈ vs, NmOk σ v) → seen.Nodup → dueV kn seen vs = 0 → ∃ ns : List Str, vs = ns.map V.str ∧ (∀ n ∈ ns, n ∈ kn) ∧ (seen ++ ns).Nodup := by
  intro vs
  induction vs with
  | nil => intro seen _ nd _; exact ⟨[], rfl, (fun _ h => by cases h), by simpa using nd⟩
  | cons v vs ih =>
    intro seen hv nd h
    rcases hv v (.head _) with ⟨x, rfl, _⟩ | o
    · rw [dueV_str] at h
      by_cases q : kn.contains x = true
      · rw [if_pos q] at h
        by_cases q2 : seen.contains x = true
        · rw [if_pos q2] at h; cases h
        · rw [if_neg q2] at h
          have nd2 : (seen ++ [x]).Nodup := by
            rw [List.nodup_append]
            refine ⟨nd, by simp, fun a ha b hb e => q2 ?_⟩
            rw [List.mem_singleton.mp hb] at e
            rw [← e]; simpa using ha
          obtain ⟨ns, rfl, h1, h2⟩ := ih (fun v hv' => hv v (.tail _ hv')) nd2 h
          refine ⟨x :: ns, rfl, fun n hn => ?_, by simpa using h2⟩
          rcases List.mem_cons.mp hn with rfl | hn
          · simpa using q
          · exact h1 n hn
      · rw [if_neg q] at h; cases h
    · rw [o.due] at h; cases h
def dueS : Nat → Str
  | 0 => Str.ofString "none"
  | 1 => Str.ofString "stranger"
  | _ => Str.ofString "twice"

theorem slice_n {α : Type} (xs : List α) (k : Nat) (h : k ≤ xs.length) : pySlice xs none (some ((k : Nat) : Int)) = xs.take k := pySlice_upto xs k h
/-- what is due -/
theorem c_due (hK : C.K = KL C.w.params) {l m : Addr} {vs : List V} {kn : List Str} {Q : V → Store → Prop} (hr : A.depth < recursionLimit) (hh : A.handled = none) (hu : A.units < 6000) (hl : σ l = some (.list vs)) (hm : σ m = some (.list (kn.map V.str))) (hz : vs.length ≤ 200) (hk : ∀ n ∈ kn, PyData.strOk n = true)
    (hv : ∀ v ∈ vs, NmOk σ v) (h : ∀ σ', Grow σ σ' → Q (.str (dueS (dueV kn [] vs))) σ') : CallWP C A (.ref 359) [.ref l, .ref m] σ Q X := by
  k_extra "mdef2"
  intro fL A' a1 a2 a3
  have hh' : A'.handled = none := a1.trans hh
  have hu' : A'.units < 9000 := by (first | lia | omega)
  repeat k_extra "m"
  refine ⟨_, _, ItV.rng hh' (by (first | lia | omega)) (by (first | lia | omega)) (by simp <;> (first | lia | omega)) (by simp <;> (first | lia | omega)), ?_⟩
  have er : irange 0 ((vs.length : Nat) : Int) = (List.range' 0 vs.length).map fun (i : Nat) => V.int (i : Int) := by
    unfold irange
    rw [List.range_eq_range']
    simp
  rw [er]
  refine ForL.inv (fun (i : Nat) => V.int (i : Int)) (fun rest ρ σ1 => ∃ (seen : List Str) (vs2 : List V), vs = seen.map V.str ++ vs2 ∧ rest = List.range' seen.length vs2.length ∧ (∀ n ∈ seen, n ∈ kn) ∧ dueV kn [] vs = dueV kn seen vs2 ∧ Grow σ σ1 ∧ ρ.get "_law_names" = some (.ref l) ∧ ρ.get "_law_known" = some (.ref m)) ?_ ?_ _ _ _ ⟨[], vs, by simp, by simp, (fun _ h => by cases h), rfl, Grow.rfl', by k_extra "mget", by k_extra "mget"⟩
  · rintro i is ρ σ1 ⟨seen, vs2, e1, e2, e3, e4, g1, r1, r2⟩
    cases vs2 with
    | nil => simp at e2
    | cons v vs2 =>
    rw [List.length_cons, List.range'_succ] at e2
    obtain ⟨rfl, rfl⟩ := List.cons.inj e2
    have hl1 := g1 _ _ hl
    have hm1 := g1 _ _ hm
    have hvm : v ∈ vs := by rw [e1]; simp
    have hlen : seen.length + vs2.length + 1 = vs.length := by rw [e1]; simp; (first | lia | omega)
    have it : ∀ {A2 : Around} {σ2 : Store} {Q2 : V → Store → Prop} {X2 : XP}, σ2 l = some (.list vs) → Q2 v σ2 → ItemWP C A2 (.ref l) (.int (seen.length : Int)) σ2 Q2 X2 := fun g hQ => ItemWP.list (.inl g) (by (first | lia | omega)) (by (first | lia | omega)) (by rw [e1]; simp) hQ
    repeat k_extra "m"
    refine it hl1 ?_
    repeat k_extra "m"
    rcases (hv v hvm).grow g1 with ⟨x, rfl, hx⟩ | o
    · rw [dueV_str] at e4
      refine CmpWP.notInStrs hu' hm1 hx hk ?_
      cases q1 : kn.contains x with
      | false =>
        rw [q1] at e4
        repeat k_extra "m"
        rw [e4] at h
        exact h _ g1
      | true =>
        rw [q1] at e4
        repeat k_extra "m"
        refine it hl1 ?_
        repeat k_extra "m"
        refine ⟨_, rfl, ?_⟩
        refine SliceWP.list (.inl hl1) (by simp [sizeLine_eq]; (first | lia | omega)) fun c hc => ?_
        have es : vs.take seen.length = seen.map V.str := by rw [e1]; exact List.take_left' (by simp)
        rw [slice_n _ _ (by (first | lia | omega)), es]
        refine CmpWP.inStrs hu' Store.hit hx (fun n hn => hk n (e3 n hn)) ?_
        cases q2 : seen.contains x with
        | true =>
          rw [q2] at e4
          repeat k_extra "m"
          rw [e4] at h
          exact h _ (g1.fresh hc)
        | false =>
          rw [q2] at e4
          repeat k_extra "m"
          refine ⟨trivial, seen ++ [x], vs2, by rw [e1]; simp, by simp, fun n hn => ?_, by simpa using e4, g1.fresh hc, by k_extra "mget", by k_extra "mget"⟩
          rcases List.mem_append.mp hn with hn | hn
          · exact e3 n hn
          · rw [List.mem_singleton.mp hn]; simpa using q1
    · refine CmpWP.notInOdd hm1 (o.eqS hu') ?_
      repeat k_extra "m"
      rw [e4, o.due] at h
      exact h _ g1
  · rintro ρ σ1 ⟨seen, vs2, e1, e2, e3, e4, g1, r1, r2⟩
    have e5 : vs2 = [] := by
      cases vs2 with
      | nil => rfl
      | cons v vs2 => rw [List.length_cons, List.range'_succ] at e2; cases e2
    subst e5
    repeat k_extra "m"
    rw [e4] at h
    exact h _ g1

theorem kindOf_mkE (sc : Scope) (L : Addr) (cells : List (Str × Addr)) (q : Str) (fn : Option Addr) (cd : Value) (fr : Option Addr) (x : Str) : (mkE sc L cells q fn cd fr).kindOf x = sc.names.lookup x := rfl
/-- names that do not stand: need_names raises -/
theorem r_needn (hK : C.K = KL C.w.params) {l : List Env} {D : Addr} {bm : List Value} {newId B initId : String} (OS : OwnCls (Str.ofString "Stranger") 73 bm newId C.mg C.h₀) (OT : OwnCls (Str.ofString "Twice") 61 bm newId C.mg C.h₀) (FB : ExcBaseFacts B newId initId bm)
    {a m : Addr} {ts : List (Str × List V)} {vs : List V} {P : Store → Prop} {Q : V → Store → Prop} (hr : A.depth < recursionLimit) (hh : A.handled = none) (hu : A.units < 6000) (hfr : A.frames = some l)
    (ha : σ a = some (.list (ts.map fun t => V.tup (.str t.1 :: t.2)))) (hm : σ m = some (.list vs)) (ht : ts.length ≤ 200) (hz : vs.length ≤ 200) (hk : ∀ t ∈ ts, PyData.strOk t.1 = true) (hv : ∀ v ∈ vs, NmOk σ v)
    (h0 : dueV (ts.map (·.1)) [] vs ≠ 0) (h1 : dueV (ts.map (·.1)) [] vs = 1 → D = 73) (h2 : dueV (ts.map (·.1)) [] vs = 2 → D = 61) (hP : ∀ σ', Grow σ σ' → P σ') : CodX C A l D P (.ref 131) [.ref a, .ref m] σ Q := by
  refine' CodX.defK [Str.ofString "handlers", Str.ofString "names"] (by k_extra "mK") (by k_extra "mK") (by assumption) (by intro vals hl; obtain ⟨u1, t1, rfl, h1⟩ := lenS hl; obtain ⟨u2, t2, rfl, h2⟩ := lenS h1; obtain rfl := List.eq_nil_of_length_eq_zero h2; with_unfolding_all rfl) (by decide +kernel) (by kernel_rfl!) (by kernel_rfl!) (by rfl) (by rfl) (by rfl) hfr ?_
  intro L A' a1 a2 a3 a4
  have hh' : A'.handled = none := a1.trans hh
  have hu' : A'.units < 9000 := by (first | lia | omega)
  rw [show List.zip [Str.ofString "handlers", Str.ofString "names"] [V.ref a, V.ref m] = [(Str.ofString "handlers", V.ref a), (Str.ofString "names", V.ref m)] from rfl]
  refine ExsR.step (fun ρ1 σ1 => ∃ kn, Grow σ σ1 ∧ σ1 kn = some (.list ((ts.map (·.1)).map V.str)) ∧ ρ1.get "known" = some (.ref kn) ∧ ρ1.get "names" = some (.ref m)) ?_ ?_
  · repeat k_extra "m"
    refine ⟨_, _, ItV.list hh' (.inl ha), fun L' => ?_⟩
    refine CmpL.pure (fun _ => true) (fun y => match y with | .tup (x :: _) => x | _ => .none) (.inl ha) _ _ ?_ ?_ (by simp [sizeLine_eq]; (first | lia | omega)) ?_
    · intro y hy Q hQ
      repeat k_extra "m"
      exact hQ
    · intro y hy _ Q hQ
      obtain ⟨p, hp, rfl⟩ := List.mem_map.mp hy
      repeat k_extra "m"
      exact hQ
    intro kn hkn
    have e : ([] : List V) ++ List.map (fun y => match y with | .tup (x :: _) => x | _ => .none) (List.filter (fun _ => true) (ts.map fun t => V.tup (.str t.1 :: t.2))) = (ts.map (·.1)).map V.str := by
      rw [List.nil_append, List.filter_eq_self.mpr (fun _ _ => rfl), List.map_map, List.map_map]; rfl
    rw [e]
    exact ⟨rfl, kn, Grow.rfl'.fresh hkn, Store.hit, by k_extra "mget", by k_extra "mget"⟩
  rintro ρ1 σ1 ⟨kn, g1, f1, r1, r2⟩
  have hkok : ∀ n ∈ ts.map (·.1), PyData.strOk n = true := fun n hn => by
    obtain ⟨t, ht', rfl⟩ := List.mem_map.mp hn
    exact hk t ht'
  refine ExsR.step (fun ρ2 σ2 => ∃ fa, Grow σ1 σ2 ∧ σ1 fa = none ∧ σ2 fa = some (.list []) ∧ ρ2.get "known" = some (.ref kn) ∧ ρ2.get "names" = some (.ref m) ∧ ρ2.get "found" = some (.ref fa)) ?_ ?_
  · repeat k_extra "m"
    intro fa hfa
    repeat k_extra "m"
    exact ⟨rfl, fa, Grow.rfl'.fresh hfa, hfa, Store.hit, by k_extra "mget", by k_extra "mget", by k_extra "mget"⟩
  clear r1 r2
  rintro ρ2 σ2 ⟨fa, g2, hfa, f2, r1, r2, r3⟩
  have ne1 : fa ≠ kn := fun q => by rw [q, f1] at hfa; cases hfa
  have ne2 : fa ≠ m := fun q => by rw [q, g1 _ _ hm] at hfa; cases hfa
  have hfa0 : σ fa = none := by
    cases q : σ fa with
    | none => rfl
    | some o => rw [g1 _ _ q] at hfa; cases hfa
  refine ExsR.cons (ExR.for a4 rfl ?_)
  repeat k_extra "m"
  have hm2 : σ2 m = some (.list vs) := g2 _ _ (g1 _ _ hm)
  refine ⟨_, _, ItV.list hh' (.inl hm2), ?_⟩
  rw [← List.map_id vs]
  refine ForR.inv id (fun rest ρ σ3 => ∃ seen : List Str, vs = seen.map V.str ++ rest ∧ (∀ n ∈ seen, n ∈ ts.map (·.1)) ∧ dueV (ts.map (·.1)) [] vs = dueV (ts.map (·.1)) seen rest ∧ Grow σ σ3 ∧ σ3 kn = some (.list ((ts.map (·.1)).map V.str)) ∧ σ3 fa = some (.list (seen.map V.str)) ∧ ρ.get "known" = some (.ref kn) ∧ ρ.get "names" = some (.ref m) ∧ ρ.get "found" = some (.ref fa)) ?_ ?_ _ _ _ ⟨[], by simp, (fun _ h => by cases h), rfl, g1.trans g2, g2 _ _ f1, f2, r1, r2, r3⟩
  · clear r1 r2 r3
    rintro v rest ρ σ3 ⟨seen, e1, e2, e3, g3, f3, f4, r1, r2, r3⟩
    have hvm : v ∈ vs := by rw [e1]; simp
    repeat k_extra "m"
    refine ExsR.cons (ExR.ite ?_)
    repeat k_extra "m"
    rcases (hv v hvm).grow g3 with ⟨x, rfl, hx⟩ | o
    · rw [dueV_str] at e3
      refine CmpWP.notInStrs hu' f3 hx hkok ?_
      cases q1 : (ts.map (·.1)).contains x with
      | false =>
        rw [q1] at e3
        obtain rfl : D = 73 := h1 e3
        repeat k_extra "m"
        refine ExsR.cons (ExR.raise OS FB hh' ((kindOf_mkE _ _ _ _ _ _ _ _).trans (by kernel_rfl!)) rfl ?_ (by kernel_rfl) (by kernel_rfl))
        repeat k_extra "m"
        exact hP _ g3
      | true =>
        rw [q1] at e3
        repeat k_extra "m"
        refine ExsR.of (Exs.nil ?_)
        refine ExsR.cons (ExR.ite ?_)
        repeat k_extra "m"
        refine CmpWP.inStrs hu' f4 hx (fun n hn => hkok n (e2 n hn)) ?_
        cases q2 : seen.contains x with
        | true =>
          rw [q2] at e3
          obtain rfl : D = 61 := h2 e3
          repeat k_extra "m"
          refine ExsR.cons (ExR.raise OT FB hh' ((kindOf_mkE _ _ _ _ _ _ _ _).trans (by kernel_rfl!)) rfl ?_ (by kernel_rfl) (by kernel_rfl))
          repeat k_extra "m"
          exact hP _ g3
        | false =>
          rw [q2] at e3
          have hlen : seen.length ≤ 200 := by rw [e1] at hz; simp at hz; (first | lia | omega)
          repeat k_extra "m"
          refine ExsR.of (Exs.nil ?_)
          refine ExsR.of ?_
          repeat k_extra "m"
          refine ⟨.inl (by rw [List.map_id]; exact Store.miss (Ne.symm ne2) (g3 _ _ hm)), seen ++ [x], by rw [e1]; simp, fun n hn => ?_, by simpa using e3, g3.upd hfa0, Store.miss (Ne.symm ne1) f3, by rw [Store.hit]; simp, by k_extra "mget", by k_extra "mget", by k_extra "mget"⟩
          rcases List.mem_append.mp hn with hn | hn
          · exact e2 n hn
          · rw [List.mem_singleton.mp hn]; simpa using q1
    · refine CmpWP.notInOdd f3 (o.eqS hu') ?_
      rw [o.due] at e3
      obtain rfl : D = 73 := h1 e3
      repeat k_extra "m"
      refine ExsR.cons (ExR.raise OS FB hh' ((kindOf_mkE _ _ _ _ _ _ _ _).trans (by kernel_rfl!)) rfl ?_ (by kernel_rfl) (by kernel_rfl))
      repeat k_extra "m"
      exact hP _ g3
  · rintro ρ σ3 ⟨seen, e1, e2, e3, _⟩
    exact absurd e3 h0

/-- Loom(..) with names that do not stand -/
theorem r_Loom (hK : C.K = KL C.w.params) (hS : SysOk C) {ll : List Env} {D : Addr} {bm : List Value} {newId B initId : String} (OS : OwnCls (Str.ofString "Stranger") 73 bm newId C.mg C.h₀) (OT : OwnCls (Str.ofString "Twice") 61 bm newId C.mg C.h₀) (FB : ExcBaseFacts B newId initId bm)
    {l l2 : Addr} {hs : List (Hn × V)} {vs : List V} {P : Store → Prop} {Q : V → Store → Prop} (hr : A.depth + 6 < recursionLimit) (hh : A.handled = none) (hu : A.units < 5900) (hfr : A.frames = some ll) (T : Told σ hs) (hl : σ l = some (.list (hs.map fun p => p.1.tv p.2)))
    (hl2 : σ l2 = some (.list vs)) (hz : vs.length ≤ 200) (ok : ∀ n ∈ hs.map (·.1.name), PyData.strOk n = true) (hnm : ∀ v ∈ vs, NmOk σ v)
    (h0 : dueV (hs.map (·.1.name)) [] vs ≠ 0) (h1 : dueV (hs.map (·.1.name)) [] vs = 1 → D = 73) (h2 : dueV (hs.map (·.1.name)) [] vs = 2 → D = 61) (hP : ∀ σ', Grow σ σ' → P σ') : CallX C A ll D P (.ref 313) [.ref l, .ref l2] σ Q := by
  refine CallX.cls (by k_extra "mK") (by k_extra "mK") (by k_extra "mK") hfr fun w dx A1 hw hd hne b1 b2 b3 b4 => ?_
  have hr1 : A1.depth < recursionLimit := by (first | lia | omega)
  refine' CodX.defK [Str.ofString "self", Str.ofString "handlers", Str.ofString "names"] (by k_extra "mK") (by k_extra "mK") (by assumption) (by intro vals hl; obtain ⟨u1, t1, rfl, h1⟩ := lenS hl; obtain ⟨u2, t2, rfl, h2⟩ := lenS h1; obtain ⟨u3, t3, rfl, h3⟩ := lenS h2; obtain rfl := List.eq_nil_of_length_eq_zero h3; with_unfolding_all rfl) (by decide +kernel) (by kernel_rfl!) (by kernel_rfl!) (by rfl) (by rfl) (by rfl) b4 ?_
  intro L A' a1 a2 a3 a4
  have hh' : A'.handled = none := (a1.trans b1).trans hh
  have t1 : ((σ.upd dx (.sd [])).upd w (.inst 313 dx)) w = some (.inst 313 dx) := Store.hit
  have t2 : ((σ.upd dx (.sd [])).upd w (.inst 313 dx)) dx = some (.sd []) := Store.miss (Ne.symm hne) Store.hit
  have g0 : Grow σ ((σ.upd dx (.sd [])).upd w (.inst 313 dx)) := (Grow.rfl'.upd hd).upd hw
  generalize hσ0 : (σ.upd dx (.sd [])).upd w (.inst 313 dx) = σ0 at t1 t2 g0 ⊢
  rw [show List.zip [Str.ofString "self", Str.ofString "handlers", Str.ofString "names"] [V.ref w, V.ref l, V.ref l2] = [(Str.ofString "self", V.ref w), (Str.ofString "handlers", V.ref l), (Str.ofString "names", V.ref l2)] from rfl]
  refine ExsR.step (fun ρ1 σ1 => ∃ ca, Grow σ σ1 ∧ σ1 w = some (.inst 313 dx) ∧ σ1 dx = some (.sd [("cast", .ref ca)]) ∧ σ1 ca = some (.list ((hs.map (·.1.hd)).map hv)) ∧ ρ1.get "self" = some (.ref w) ∧ ρ1.get "names" = some (.ref l2)) ?_ ?_
  · repeat k_extra "m"
    refine c_needh hK hS (by (first | lia | omega)) hh' (by (first | lia | omega)) (T.grow g0) (.inl (g0 _ _ hl)) fun ca σ1 g1 hca1 hca2 => ?_
    have t1' := g1 _ _ t1
    have t2' := g1 _ _ t2
    have ne1 : ca ≠ dx := fun q => by rw [q, t2] at hca1; cases hca1
    repeat k_extra "m"
    exact ⟨rfl, ca, (g0.trans g1).upd hd, Store.miss hne t1', Store.hit, Store.miss ne1 hca2, by k_extra "mget", by k_extra "mget"⟩
  rintro ρ1 σ1 ⟨ca, g1, s1, s2, s3, r1, r2⟩
  refine ExsR.cons (ExR.assign (EvR.call rfl ?_))
  repeat k_extra "m"
  refine ⟨_, rfl, by k_extra "mK", ?_⟩
  repeat k_extra "m"
  have e1 : (hs.map (·.1.hd)).map hv = (hs.map fun p => (p.1.name, [V.int p.1.rank, .str p.1.hears, .bool p.1.once, .tup (p.1.ds.map Deed.v)])).map fun t => V.tup (.str t.1 :: t.2) := by
    rw [List.map_map, List.map_map]; rfl
  have e2 : (hs.map fun p => (p.1.name, [V.int p.1.rank, .str p.1.hears, .bool p.1.once, .tup (p.1.ds.map Deed.v)])).map (·.1) = hs.map (·.1.name) := by rw [List.map_map]; rfl
  rw [e1] at s3
  refine CodX.call (r_needn hK OS OT FB (by (first | lia | omega)) hh' (by (first | lia | omega)) a4 s3 (g1 _ _ hl2) (by simp; have := T.len; (first | lia | omega)) hz (fun t ht => ?_) (fun v hv' => (hnm v hv').grow g1) (by rw [e2]; exact h0) (by rw [e2]; exact h1) (by rw [e2]; exact h2) fun σ' g => hP σ' (g1.trans g))
  obtain ⟨p, hp, rfl⟩ := List.mem_map.mp ht
  exact ok _ (List.mem_map_of_mem hp)

theorem CallWP.indexB {l : Addr} {bs : List Bool} {Q : V → Store → Prop} (hl : LstAt C σ l (bs.map V.bool)) (hx : true ∈ bs) (hz : bs.length ≤ 9000) (hu : A.units < 9000) (h : Q (.int ((bs.idxOf true : Nat) : Int)) σ) : CallWP C A (.builtin "list.index") [.ref l, .bool true] σ Q X := by
  rintro s vs S (_ | ⟨r1, _ | ⟨r2, ⟨⟩⟩⟩)
  cases r1; cases r2
  obtain ⟨items, hI, rl⟩ := hl.raw S
  have e := bools_of rl
  obtain ⟨⟨cls, dd, data, sl⟩, ho, hc, n, hd⟩ := id hI
  simp only at hc hd
  subst hc hd
  have e' : items = (bs.map Value.bool).toArray := by rw [← e]
  subst e'
  have hj := List.idxOf_lt_length_of_mem hx
  refine call_meets PySem.F.slot_list_index ⟨_, ho, rfl⟩ PySem.F.entry_list_index (PySem.F.args_list_index_2 _ _) (list_indexAt l _ n dd sl (.bool true) isT (bs.idxOf true) (by simpa using hj) (by (first | lia | omega)) (by simp [isT, List.getElem_idxOf hj]) (fun m hm hlt => ?_)) ⟨ho, fun y hy => ?_, ?_⟩
  · have := List.not_of_lt_findIdx (p := (· == true)) hlt
    simpa [isT] using this
  · have hy' : y ∈ bs.map Value.bool := by simpa using hy
    obtain ⟨b, _, rfl⟩ := List.mem_map.mp hy'
    exact eqT S hu
  · exact EP.pureT S h (.int _ _)
/-- what the law asks of an error -/
structure KindK (K : Frag) (D : Addr) (b1 b2 b3 b4 b5 : Bool) : Prop where
  kit : excKit K D = true
  k1 : kitOne K (.ref D) (.ref 37) = some b1
  k2 : kitOne K (.ref D) (.ref 49) = some b2
  k3 : kitOne K (.ref D) (.ref 61) = some b3
  k4 : kitOne K (.ref D) (.ref 73) = some b4
  k5 : kitOne K (.ref D) (.ref 85) = some b5
  kv : kitOne K (.ref D) (.type "ValueError") = some true
  ke : exmOne K (.ref D) (.ref 24) = some true
theorem kindStranger (P : Params) : KindK (KL P) 73 false false false true false :=
  ⟨by kernel_rfl, by kernel_rfl, by kernel_rfl, by kernel_rfl, by kernel_rfl, by kernel_rfl, by kernel_rfl, by kernel_rfl⟩
theorem kindTwice (P : Params) : KindK (KL P) 61 false false true false false :=
  ⟨by kernel_rfl, by kernel_rfl, by kernel_rfl, by kernel_rfl, by kernel_rfl, by kernel_rfl, by kernel_rfl, by kernel_rfl⟩
theorem c_kind (hK : C.K = KL C.w.params) {e D : Addr} {b1 b2 b3 b4 b5 : Bool} {Q : V → Store → Prop} (hr : A.depth < recursionLimit) (hu : A.units < 8000) (k : KindK C.K D b1 b2 b3 b4 b5) (h1 : ([b1, b2, b3, b4, b5] : List Bool).countP id = 1) (he : σ e = some (.exc D))
    (h : ∀ σ', Grow σ σ' → Q (.int ((([b1, b2, b3, b4, b5] : List Bool).idxOf true : Nat) : Int)) σ') : CallWP C A (.ref 338) [.ref e] σ Q X := by
  have hmem : true ∈ [b1, b2, b3, b4, b5] := by
    cases b1 <;> cases b2 <;> cases b3 <;> cases b4 <;> cases b5 <;> first | (simp; done) | cases h1
  k_extra "mdef1"
  intro L A' a1 a2 a3
  repeat k_extra "m"
  refine isi_exc he k.kit k.k1 ?_
  repeat k_extra "m"
  refine isi_exc he k.kit k.k2 ?_
  repeat k_extra "m"
  refine isi_exc he k.kit k.k3 ?_
  repeat k_extra "m"
  intro a ha
  have he1 : (σ.upd a (.list [.bool b1, .bool b2, .bool b3])) e = some (.exc D) := Store.at_fresh ha he
  have hl1 : (σ.upd a (.list [.bool b1, .bool b2, .bool b3])) a = some (.list [.bool b1, .bool b2, .bool b3]) := Store.hit
  have g1 : Grow σ (σ.upd a (.list [.bool b1, .bool b2, .bool b3])) := Grow.rfl'.fresh ha
  generalize Store.upd σ a _ = σ1 at he1 hl1 g1 ⊢
  repeat k_extra "m"
  refine isi_exc he1 k.kit k.k4 ?_
  repeat k_extra "m"
  refine isi_exc he1 k.kit k.k5 ?_
  repeat k_extra "m"
  intro b hb
  repeat k_extra "m"
  refine BinWP.cat (xs := [.bool b1, .bool b2, .bool b3]) (ys := [.bool b4, .bool b5]) (.inl (Store.at_fresh hb hl1)) (.inl Store.hit) (show 5 ≤ sizeLine by decide) ?_
  intro d hd
  have he2 := Store.at_fresh (o := .list [.bool b1, .bool b2, .bool b3, .bool b4, .bool b5]) hd (Store.at_fresh (o := .list [.bool b4, .bool b5]) hb he1)
  have hl2 : ((σ1.upd b (.list [.bool b4, .bool b5])).upd d (.list [.bool b1, .bool b2, .bool b3, .bool b4, .bool b5])) d = some (.list [.bool b1, .bool b2, .bool b3, .bool b4, .bool b5]) := Store.hit
  have g2 : Grow σ ((σ1.upd b (.list [.bool b4, .bool b5])).upd d (.list [.bool b1, .bool b2, .bool b3, .bool b4, .bool b5])) := (g1.fresh hb).fresh hd
  show Asg _ _ _ _ _ _ ((σ1.upd b (.list [.bool b4, .bool b5])).upd d (.list [.bool b1, .bool b2, .bool b3, .bool b4, .bool b5])) _ _
  generalize (σ1.upd b (.list [.bool b4, .bool b5])).upd d (.list [.bool b1, .bool b2, .bool b3, .bool b4, .bool b5]) = σ2 at he2 hl2 g2 ⊢
  repeat k_extra "m"
  refine CallWP.countB (bs := [b1, b2, b3, b4, b5]) (.inl hl2) (by (first | lia | omega)) ?_
  rw [h1]
  repeat k_extra "m"
  refine isi_excT he2 k.kit k.kv ?_
  repeat k_extra "m"
  refine CallWP.indexB (bs := [b1, b2, b3, b4, b5]) (.inl hl2) hmem (show 5 ≤ 9000 by decide) (by (first | lia | omega)) ?_
  repeat k_extra "m"
  exact h _ g2

theorem f_refused (hK : C.K = KL C.w.params) (hS : SysOk C) (hlo : C.loose) {ll : List Env} {D : Addr} {b1 b2 b3 b4 b5 : Bool} {bm : List Value} {newId B initId : String} (OS : OwnCls (Str.ofString "Stranger") 73 bm newId C.mg C.h₀) (OT : OwnCls (Str.ofString "Twice") 61 bm newId C.mg C.h₀) (FB : ExcBaseFacts B newId initId bm)
    {l l2 : Addr} {way : Int} {hs : List (Hn × V)} {vs : List V} {Q : V → Store → Prop} (hr : A.depth + 8 < recursionLimit) (hh : A.handled = none) (hu : A.units < 5800) (hfr : A.frames = some ll) (T : Told σ hs) (hl : σ l = some (.list (hs.map fun p => p.1.tv p.2)))
    (hl2 : σ l2 = some (.list vs)) (hz : vs.length ≤ 200) (ok : ∀ n ∈ hs.map (·.1.name), PyData.strOk n = true) (hnm : ∀ v ∈ vs, NmOk σ v) (k : KindK C.K D b1 b2 b3 b4 b5) (hc : ([b1, b2, b3, b4, b5] : List Bool).countP id = 1)
    (h0 : dueV (hs.map (·.1.name)) [] vs ≠ 0) (h1 : dueV (hs.map (·.1.name)) [] vs = 1 → D = 73) (h2 : dueV (hs.map (·.1.name)) [] vs = 2 → D = 61) {w : Str} (hw : ([V.str (Str.ofString "word"), .str (Str.ofString "handler"), .str (Str.ofString "twice"), .str (Str.ofString "stranger"), .str (Str.ofString "count"), .str (Str.ofString "other")] : List V)[([b1, b2, b3, b4, b5] : List Bool).idxOf true]? = some (.str w))
    (h : ∀ σ', Grow σ σ' → Q (.str w) σ') : CallF C A ll (.ref 345) [.ref l, .ref l2, .int way] σ Q X := by
  have hr1 : A.depth < recursionLimit := by (first | lia | omega)
  have hidx : ([b1, b2, b3, b4, b5] : List Bool).idxOf true ≤ 5 := List.idxOf_le_length
  refine' CallF.defK [Str.ofString "_law_handlers", Str.ofString "_law_names", Str.ofString "_law_way"] (by k_extra "mK") (by k_extra "mK") (by assumption) (by intro vals hl; obtain ⟨u1, t1, rfl, h1⟩ := lenS hl; obtain ⟨u2, t2, rfl, h2⟩ := lenS h1; obtain ⟨u3, t3, rfl, h3⟩ := lenS h2; obtain rfl := List.eq_nil_of_length_eq_zero h3; with_unfolding_all rfl) (by decide +kernel) (by kernel_rfl!) (by kernel_rfl!) (by rfl) (by rfl) (by rfl) hfr ?_
  intro L A' a1 a2 a3 a4
  have hh' : A'.handled = none := a1.trans hh
  rw [show List.zip [Str.ofString "_law_handlers", Str.ofString "_law_names", Str.ofString "_law_way"] [V.ref l, V.ref l2, V.int way] = [(Str.ofString "_law_handlers", V.ref l), (Str.ofString "_law_names", V.ref l2), (Str.ofString "_law_way", V.int way)] from rfl]
  refine ExsO.try (D := D) (P := fun σ' => Grow σ σ') (E := 24) a4 rfl hlo ?_ k.ke (by k_extra "mK") ((kindOf_mkE _ _ _ _ _ _ _ _).trans (by kernel_rfl!)) rfl ((kindOf_mkE _ _ _ _ _ _ _ _).trans (by kernel_rfl!)) ?_ (by kernel_rfl) rfl
  · refine ExsR.cons (ExR.ite ?_)
    repeat k_extra "m"
    refine Br.both ?_ ?_
    · refine ExsR.cons (ExR.expr (EvR.call rfl ?_))
      repeat k_extra "m"
      refine ⟨_, rfl, by k_extra "mK", ?_⟩
      repeat k_extra "m"
      have e1 : (hs.map fun p => p.1.tv p.2) = (hs.map fun p => (p.1.name, [V.int p.1.rank, .str p.1.hears, .bool p.1.once, p.2])).map fun t => V.tup (.str t.1 :: t.2) := by
        rw [List.map_map]; rfl
      have e2 : (hs.map fun p => (p.1.name, [V.int p.1.rank, .str p.1.hears, .bool p.1.once, p.2])).map (·.1) = hs.map (·.1.name) := by rw [List.map_map]; rfl
      rw [e1] at hl
      refine CodX.call (r_needn hK OS OT FB (by (first | lia | omega)) hh' (by (first | lia | omega)) a4 hl hl2 (by simp; have := T.len; (first | lia | omega)) hz (fun t ht => ?_) hnm (by rw [e2]; exact h0) (by rw [e2]; exact h1) (by rw [e2]; exact h2) fun σ' g => g)
      obtain ⟨p, hp, rfl⟩ := List.mem_map.mp ht
      exact ok _ (List.mem_map_of_mem hp)
    · refine ExsR.cons (ExR.expr (EvR.call rfl ?_))
      repeat k_extra "m"
      refine ⟨_, rfl, by k_extra "mK", ?_⟩
      repeat k_extra "m"
      exact r_Loom hK hS OS OT FB (by (first | lia | omega)) hh' (by (first | lia | omega)) a4 T hl hl2 hz ok hnm h0 h1 h2 fun σ' g => g
  · intro e ρ1 σ1 g1 he1
    have he : (σ1.upd e (.exc D)) e = some (.exc D) := Store.hit
    have g2 : Grow σ (σ1.upd e (.exc D)) := g1.fresh he1
    generalize Store.upd σ1 e _ = σ2 at he g2 ⊢
    repeat k_extra "m"
    intro x hx
    have he2 := Store.at_fresh (o := .list [.str (Str.ofString "word"), .str (Str.ofString "handler"), .str (Str.ofString "twice"), .str (Str.ofString "stranger"), .str (Str.ofString "count"), .str (Str.ofString "other")]) hx he
    have hx2 : (σ2.upd x (.list [.str (Str.ofString "word"), .str (Str.ofString "handler"), .str (Str.ofString "twice"), .str (Str.ofString "stranger"), .str (Str.ofString "count"), .str (Str.ofString "other")])) x = some (.list [.str (Str.ofString "word"), .str (Str.ofString "handler"), .str (Str.ofString "twice"), .str (Str.ofString "stranger"), .str (Str.ofString "count"), .str (Str.ofString "other")]) := Store.hit
    have g3 : Grow σ (σ2.upd x (.list [.str (Str.ofString "word"), .str (Str.ofString "handler"), .str (Str.ofString "twice"), .str (Str.ofString "stranger"), .str (Str.ofString "count"), .str (Str.ofString "other")])) := g2.fresh hx
    generalize Store.upd σ2 x _ = σ3 at he2 hx2 g3 ⊢
    repeat k_extra "m"
    refine c_kind hK (show A'.depth < _ by (first | lia | omega)) (show A'.units < _ by (first | lia | omega)) k hc he2 fun σ4 g4 => ?_
    refine ItemWP.list (.inl (g4 _ _ hx2)) (by (first | lia | omega)) (by (first | lia | omega)) (by rw [Int.toNat_natCast]; exact hw) ?_
    repeat k_extra "m"
    exact ⟨_, rfl, fun _ => h _ (g3.trans g4)⟩

theorem slice_sub (x : Str) (l u : Option Int) : ∀ c ∈ (Txt.slice x l u).cps.toList, c ∈ x.cps.toList := by
  intro c hc
  unfold Txt.slice at hc
  split at hc
  · exact hc
  simp only [List.mem_filterMap] at hc
  obtain ⟨i, _, e⟩ := hc
  rw [← Array.getElem?_toList] at e
  exact List.mem_of_getElem? e
theorem slice_ok {x : Str} (l u : Option Int) (h : PyData.strOk x = true) : PyData.strOk (Txt.slice x l u) = true := by
  rw [strOk_iff] at h ⊢
  exact fun c hc => h c (slice_sub x l u c hc)
theorem cat_ok {x y : Str} (h1 : PyData.strOk x = true) (h2 : PyData.strOk y = true) : PyData.strOk (x ++ y) = true := by
  rw [strOk_iff] at h1 h2 ⊢
  intro c hc
  rw [cps_append] at hc
  rcases List.mem_append.mp hc with hc | hc
  · exact h1 c hc
  · exact h2 c hc
theorem up26 : ∀ c, c < 128 → (Unicode.upperOf c).all (· < 0x110000) = true := by decide +kernel
theorem upper_ok {x : Str} (h : ∀ c ∈ x.cps.toList, c < 128) : PyData.strOk (Txt.upper x) = true := by
  rw [strOk_iff]
  intro c hc
  have hc : c ∈ placed x fun _ c => Unicode.upperOf c := by simpa [Txt.upper] using hc
  unfold placed at hc
  rw [Array.mem_flatten] at hc
  obtain ⟨a, ha, hca⟩ := hc
  obtain ⟨i, hi, rfl⟩ := Array.mem_mapIdx.mp ha
  have h1 := List.all_eq_true.mp (up26 x.cps[i] (h _ (by simp))) c (by simpa using hca)
  simpa using h1

/-- what equals itself -/
def SelfOk (v : V) : Prop := (∃ x, v = .str x ∧ PyData.strOk x = true) ∨ v = .none ∨ (∃ i, v = .int i) ∨ (∃ x, v = .tup [.str x] ∧ PyData.strOk x = true) ∨ ∃ l, v = .ref l
theorem SelfOk.eqi {v : V} (h : SelfOk v) (hu : A.units < 8000) : EqI C A σ v := by
  rcases h with ⟨x, rfl, hx⟩ | rfl | ⟨i, rfl⟩ | ⟨x, rfl, hx⟩ | ⟨l, rfl⟩
  · exact EqI.dr (.str x) (by simpa [PyData.canLay0] using hx) (by simp only [PyData.depth]; (first | lia | omega))
  · exact EqI.dr .none (by simp [PyData.canLay0]) (by simp only [PyData.depth]; (first | lia | omega))
  · exact EqI.dr (.int i) (by simp [PyData.canLay0]) (by simp only [PyData.depth]; (first | lia | omega))
  · exact EqI.dr (.tup (.cons (.str x) .nil)) (by simpa [PyData.canLay0, PyData.canLayAll0] using hx) (by simp only [PyData.depth, PyData.depthAll]; (first | lia | omega))
  · exact EqI.ref
theorem NmOk.ofS {x : Str} (h : PyData.strOk x = true) : NmOk σ (.str x) ∧ SelfOk (.str x) := ⟨.inl ⟨x, rfl, h⟩, .inl ⟨x, rfl, h⟩⟩
theorem lenB : (Str.ofString " ").length = 1 ∧ (Str.ofString "a").length = 1 ∧ (Str.ofString "q").length = 1 := by decide +kernel
theorem len_up (x : Str) (h : x.length ≤ 100) : (Txt.upper x).length ≤ 300 := by
  have := PyProof.Rows.len_upper x
  (first | lia | omega)
/-- an item of a list, whichever it is -/
theorem ItemWP.pick {l : Addr} {xs : List V} {k : Int} {Q : V → Store → Prop} (hl : σ l = some (.list xs)) (h0 : 0 ≤ k) (hk : k < (xs.length : Int)) (hz : xs.length ≤ 9000) (h : ∀ y ∈ xs, Q y σ) : ItemWP C A (.ref l) (.int k) σ Q X := by
  have hj : k.toNat < xs.length := by (first | lia | omega)
  exact ItemWP.list (y := xs[k.toNat]) (.inl hl) h0 (by (first | lia | omega)) (List.getElem?_eq_getElem hj) (h _ (List.getElem_mem hj))
def nearA (x : Str) (at_ : Int) : List V := [V.str (Txt.upper x), V.str (x ++ Str.ofString " "), V.str (Str.ofString " " ++ x), V.str (Txt.slice x none (some (-1))), V.str (Txt.slice x (some 1) none), V.str (x ++ Str.ofString "a"), V.str (Txt.slice x none (some at_) ++ Str.ofString "q" ++ Txt.slice x (some (at_ + 1)) none)]
def nearB (x : Str) (at_ : Int) (y2 y3 : Addr) : List V := [V.str (Txt.slice x none (some at_) ++ Txt.upper (Txt.slice x (some at_) (some (at_ + 1))) ++ Txt.slice x (some (at_ + 1)) none), V.str (Str.ofString ""), V.int 5, V.none, V.str (Str.ofString "nobody"), V.ref y2, V.ref y3, V.tup [V.str x]]
theorem c_near (hK : C.K = KL C.w.params) {x : Str} {cell : Int} {Q : V → Store → Prop} (hr : A.depth < recursionLimit) (hh : A.handled = none) (h1 : 1 ≤ x.length) (h2 : x.length ≤ 12) (hlow : ∀ c ∈ x.cps.toList, c < 128)
    (h : ∀ v σ', Grow σ σ' → NmOk σ' v → SelfOk v → Q v σ') : CallWP C A (.ref 352) [.str x, .int cell] σ Q X := by
  have hx : PyData.strOk x = true := by rw [strOk_iff]; exact fun c hc => by have := hlow c hc; (first | lia | omega)
  obtain ⟨lb1, lb2, lb3⟩ := lenB
  k_extra "mdef2"
  intro fL A' a1 a2 a3
  have hh' : A'.handled = none := a1.trans hh
  repeat k_extra "m"
  refine CallWP.len_str (by (first | lia | omega)) ?_
  refine BinWP.fmod_int (by (first | lia | omega)) ?_
  generalize ((cell.fdiv 60).fmod (x.length : Int)) = at_
  have sl : ∀ {a b : Option Int} {Q : V → Store → Prop} {σ : Store}, Q (.str (Txt.slice x a b)) σ → SliceWP C (.str x) a b σ Q := fun h => SliceWP.str (by rw [sizeLine_eq]; (first | lia | omega)) h
  have ll := Txt.slice_le x
  repeat k_extra "m"
  refine CallWP.upper (PyProof.Rows.fit_upper (by (first | lia | omega))) ?_
  repeat k_extra "m"
  refine BinWP.add_str ?_ (by rw [sizeLine_eq]; (first | lia | omega))
  repeat k_extra "m"
  refine BinWP.add_str ?_ (by rw [sizeLine_eq]; (first | lia | omega))
  repeat k_extra "m"
  refine ⟨_, rfl, ?_⟩
  refine sl ?_
  repeat k_extra "m"
  refine ⟨_, rfl, ?_⟩
  repeat k_extra "m"
  refine sl ?_
  repeat k_extra "m"
  refine BinWP.add_str ?_ (by rw [sizeLine_eq]; (first | lia | omega))
  repeat k_extra "m"
  refine ⟨_, rfl, ?_⟩
  refine sl ?_
  repeat k_extra "m"
  have l1 := ll none (some at_)
  have l2 := ll (some (at_ + 1)) none
  have l3 := ll (some at_) (some (at_ + 1))
  refine BinWP.add_str ?_ (by rw [sizeLine_eq]; (first | lia | omega))
  have l4 := str_len_append (Txt.slice x none (some at_)) (Str.ofString "q")
  repeat k_extra "m"
  refine ⟨_, rfl, ?_⟩
  repeat k_extra "m"
  refine sl ?_
  refine BinWP.add_str ?_ (by rw [sizeLine_eq]; (first | lia | omega))
  repeat k_extra "m"
  show ∀ a, _ = _ → Asg _ _ _ _ _ _ (Store.upd _ _ (.list (nearA x at_))) _ _
  intro y1 hy1
  repeat k_extra "m"
  refine ⟨_, rfl, ?_⟩
  refine sl ?_
  repeat k_extra "m"
  refine ⟨_, rfl, ?_⟩
  repeat k_extra "m"
  refine ⟨_, rfl, ?_⟩
  refine sl ?_
  repeat k_extra "m"
  refine CallWP.upper (PyProof.Rows.fit_upper (by (first | lia | omega))) ?_
  have l5 := len_up (Txt.slice x (some at_) (some (at_ + 1))) (by (first | lia | omega))
  refine BinWP.add_str ?_ (by rw [sizeLine_eq]; (first | lia | omega))
  have l6 := str_len_append (Txt.slice x none (some at_)) (Txt.upper (Txt.slice x (some at_) (some (at_ + 1))))
  repeat k_extra "m"
  refine ⟨_, rfl, ?_⟩
  repeat k_extra "m"
  refine sl ?_
  refine BinWP.add_str ?_ (by rw [sizeLine_eq]; (first | lia | omega))
  repeat k_extra "m"
  intro y2 hy2
  repeat k_extra "m"
  refine Ev.dict0 fun y3 hy3 => ?_
  repeat k_extra "m"
  show ∀ a, _ = _ → BinWP _ _ _ _ _ (Store.upd _ _ (.list (nearB x at_ y2 y3))) _ _
  intro y4 hy4
  repeat k_extra "m"
  refine BinWP.cat (xs := nearA x at_) (ys := nearB x at_ y2 y3) (.inl (by k_extra "mst")) (.inl Store.hit) (by simp [sizeLine_eq, nearA, nearB]) fun y5 hy5 => ?_
  have h5 := Store.hit (σ := (((σ.upd y1 (.list (nearA x at_))).upd y2 (.list [.str x])).upd y3 (.sd [])).upd y4 (.list (nearB x at_ y2 y3))) (a := y5) (o := .list (nearA x at_ ++ nearB x at_ y2 y3))
  have h2' := Store.at_fresh (o := .list (nearA x at_ ++ nearB x at_ y2 y3)) hy5 (Store.at_fresh (o := .list (nearB x at_ y2 y3)) hy4 (Store.at_fresh (o := .sd []) hy3 (Store.hit (σ := σ.upd y1 (.list (nearA x at_))) (a := y2) (o := .list [V.str x]))))
  have h3' := Store.at_fresh (o := .list (nearA x at_ ++ nearB x at_ y2 y3)) hy5 (Store.at_fresh (o := .list (nearB x at_ y2 y3)) hy4 (Store.hit (σ := (σ.upd y1 (.list (nearA x at_))).upd y2 (.list [.str x])) (a := y3) (o := .sd [])))
  have G : Grow σ (((((σ.upd y1 (.list (nearA x at_))).upd y2 (.list [.str x])).upd y3 (.sd [])).upd y4 (.list (nearB x at_ y2 y3))).upd y5 (.list (nearA x at_ ++ nearB x at_ y2 y3))) := ((((Grow.rfl'.fresh hy1).fresh hy2).fresh hy3).fresh hy4).fresh hy5
  generalize (((((σ.upd y1 (.list (nearA x at_))).upd y2 (.list [.str x])).upd y3 (.sd [])).upd y4 (.list (nearB x at_ y2 y3))).upd y5 (.list (nearA x at_ ++ nearB x at_ y2 y3))) = σ5 at h5 h2' h3' G ⊢
  have b0 : 0 ≤ cell.fmod 15 := Int.fmod_nonneg_of_pos _ (by (first | lia | omega))
  have b1 : cell.fmod 15 < 15 := Int.fmod_lt_of_pos _ (by (first | lia | omega))
  repeat k_extra "m"
  refine ItemWP.pick h5 b0 (by simpa [nearA, nearB] using b1) (by simp [nearA, nearB]) fun y hy => ?_
  repeat k_extra "m"
  have s := fun a b => slice_ok (x := x) a b hx
  have hu : ∀ a b, PyData.strOk (Txt.upper (Txt.slice x a b)) = true := fun a b => upper_ok fun c hc => hlow c (slice_sub x a b c hc)
  have key : NmOk σ5 y ∧ SelfOk y := by
    simp only [nearA, nearB, List.cons_append, List.nil_append, List.mem_cons, List.not_mem_nil, or_false] at hy
    rcases hy with rfl | rfl | rfl | rfl | rfl | rfl | rfl | rfl | rfl | rfl | rfl | rfl | rfl | rfl | rfl
    · exact NmOk.ofS (upper_ok hlow)
    · exact NmOk.ofS (cat_ok hx (strOk_ofString _))
    · exact NmOk.ofS (cat_ok (strOk_ofString _) hx)
    · exact NmOk.ofS (s _ _)
    · exact NmOk.ofS (s _ _)
    · exact NmOk.ofS (cat_ok hx (strOk_ofString _))
    · exact NmOk.ofS (cat_ok (cat_ok (s _ _) (strOk_ofString _)) (s _ _))
    · exact NmOk.ofS (cat_ok (cat_ok (s _ _) (hu _ _)) (s _ _))
    · exact NmOk.ofS (strOk_ofString _)
    · exact ⟨.inr (.inr (.inl ⟨_, rfl⟩)), .inr (.inr (.inl ⟨_, rfl⟩))⟩
    · exact ⟨.inr (.inl rfl), .inr (.inl rfl)⟩
    · exact NmOk.ofS (strOk_ofString _)
    · exact ⟨.inr (.inr (.inr (.inr (.inl ⟨_, _, rfl, h2'⟩)))), .inr (.inr (.inr (.inr ⟨_, rfl⟩)))⟩
    · exact ⟨.inr (.inr (.inr (.inr (.inr ⟨_, _, rfl, h3'⟩)))), .inr (.inr (.inr (.inr ⟨_, rfl⟩)))⟩
    · exact ⟨.inr (.inr (.inr (.inl ⟨_, rfl⟩))), .inr (.inr (.inr (.inl ⟨_, rfl, hx⟩)))⟩
  exact h _ _ G key.1 key.2

/- law 05: the handlers that are told -/
def mkH (x : Str) (k : Nat) : Hn := ⟨x, 5 - (k : Int), Str.ofString "", false, [.hush]⟩
theorem mkH_all (x : Str) (k : Nat) : (mkH x k).name = x ∧ (mkH x k).rank = 5 - (k : Int) ∧ (mkH x k).hears = Str.ofString "" ∧ (mkH x k).once = false ∧ (mkH x k).ds = [.hush] := ⟨rfl, rfl, rfl, rfl, rfl⟩
def hn5 (n k : Nat) : Hn := mkH (nameN n k) k
theorem hn5_name (n k : Nat) : (hn5 n k).name = nameN n k := (mkH_all (nameN n k) k).1
theorem hn5_rest (n k : Nat) : (hn5 n k).rank = 5 - (k : Int) ∧ (hn5 n k).hears = Str.ofString "" ∧ (hn5 n k).once = false ∧ (hn5 n k).ds = [.hush] := (mkH_all (nameN n k) k).2
def hs5 (n : Nat) (als : List Addr) : List (Hn × V) := als.zipIdx.map fun p => (hn5 n p.2, V.ref p.1)
def kn5 (n m : Nat) : List Str := (List.range m).map (nameN n)
theorem hs5_snoc (n : Nat) (als : List Addr) (l : Addr) : hs5 n (als ++ [l]) = hs5 n als ++ [(hn5 n als.length, .ref l)] := by
  unfold hs5
  rw [List.zipIdx_append, List.map_append]
  simp
theorem hs5_len (n : Nat) (als : List Addr) : (hs5 n als).length = als.length := by simp [hs5]
theorem hs5_cast (n : Nat) (als : List Addr) : (hs5 n als).map (·.1) = (List.range als.length).map (hn5 n) := by
  have h := List.zipIdx_map_snd 0 als
  unfold hs5
  rw [List.map_map, List.range_eq_range', ← h, List.map_map]
  rfl
theorem hs5_names (n : Nat) (als : List Addr) : (hs5 n als).map (·.1.name) = kn5 n als.length := by
  have h := congrArg (List.map Hn.name) (hs5_cast n als)
  rw [List.map_map, List.map_map] at h
  unfold kn5
  rw [← List.map_congr_left (f := fun k => (hn5 n k).name) (fun k _ => hn5_name n k)]
  exact h
theorem kn5_nd {n m : Nat} (h : m ≤ 40) : (kn5 n m).Nodup := by
  unfold kn5 List.Nodup
  rw [List.pairwise_map]
  refine List.nodup_range.imp_of_mem fun {a b} ha hb hne e => hne (nameN_inj ?_ ?_ e)
  · have := List.mem_range.mp ha; (first | lia | omega)
  · have := List.mem_range.mp hb; (first | lia | omega)
theorem kn5_mem {n m : Nat} {x : Str} (h : x ∈ kn5 n m) : ∃ k, k < m ∧ x = nameN n k := by
  obtain ⟨k, hk, rfl⟩ := List.mem_map.mp h
  exact ⟨k, List.mem_range.mp hk, rfl⟩
theorem kn5_ok {n m : Nat} (h : m ≤ 40) : ∀ x ∈ kn5 n m, PyData.strOk x = true := fun x hx => by
  obtain ⟨k, hk, rfl⟩ := kn5_mem hx
  exact nameN_ok n k (by (first | lia | omega))
theorem kn5_get {n m k : Nat} (h : k < m) : (kn5 n m)[k]? = some (nameN n k) := by simp [kn5, h]
theorem hs5_told {σ : Store} {n : Nat} {als : List Addr} (hl : als.length ≤ 40) (ha : ∀ l ∈ als, σ l = some (.list [Deed.v .hush])) : Told σ (hs5 n als) := by
  refine ⟨fun p hp => ?_, fun p hp => ?_, by rw [hs5_names]; exact kn5_nd hl, by rw [hs5_len]; (first | lia | omega), fun p hp d hd m hm => ?_⟩
  · obtain ⟨⟨l, k⟩, hk, rfl⟩ := List.mem_map.mp hp
    exact .inl ⟨l, rfl, ha l (List.fst_mem_of_mem_zipIdx hk)⟩
  · obtain ⟨⟨l, k⟩, hk, rfl⟩ := List.mem_map.mp hp
    have := List.snd_lt_of_mem_zipIdx hk
    have hr := hn5_rest n k
    have h1 := nameN_isW n k (by simp at this; (first | lia | omega))
    rw [← hn5_name] at h1
    refine ⟨h1, .inl hr.2.1, ?_, fun d hd => ?_⟩
    · dsimp only
      rw [hr.2.2.2]; simp
    · dsimp only at hd
      rw [hr.2.2.2] at hd
      exact List.mem_singleton.mp hd
  · obtain ⟨⟨l, k⟩, hk, rfl⟩ := List.mem_map.mp hp
    dsimp only at hd
    rw [(hn5_rest n k).2.2.2] at hd
    rw [List.mem_singleton.mp hd] at hm
    rcases hm with z | z <;> cases z
def cast5 (n : Nat) : List Hn := (List.range n).map (hn5 n)
theorem cast5_names (n : Nat) : (cast5 n).map (·.name) = kn5 n n := by unfold cast5 kn5; rw [List.map_map]; exact List.map_congr_left fun k _ => hn5_name n k
theorem cast5_ok {n : Nat} (h : n ≤ 40) : COk (cast5 n) := by
  refine ⟨by rw [cast5_names]; exact kn5_nd h, by simp [cast5]; (first | lia | omega), fun x hx => ?_, fun x hx => ?_, fun x hx => ?_⟩
  · obtain ⟨k, hk, rfl⟩ := List.mem_map.mp hx
    rw [(hn5_rest n k).2.1]; exact strOk_ofString _
  · obtain ⟨k, hk, rfl⟩ := List.mem_map.mp hx
    rw [hn5_name]; exact nameN_ok n k (by have := List.mem_range.mp hk; (first | lia | omega))
  · obtain ⟨k, hk, rfl⟩ := List.mem_map.mp hx
    exact (hn5_rest n k).2.2.1
theorem cast5_find {n k : Nat} (h : n ≤ 40) (hk : k < n) : (cast5 n).find? (fun x => x.name == nameN n k) = some (hn5 n k) := by
  rw [← hn5_name]
  exact find_name (cast5_ok h) (h := hn5 n k) (List.mem_map_of_mem (List.mem_range.mpr hk))
theorem hdOf_hn {cast : List Hn} (K : COk cast) {x : Hn} (hm : x ∈ cast) : hrs (cast.map Hn.hd) x.name = x.hears ∧ rk (cast.map Hn.hd) x.name = x.rank := by
  have e : hdOf (cast.map Hn.hd) x.name = some x.hd := hdOf_mem (h := x.hd) K.nd' (List.mem_map_of_mem hm)
  unfold hrs rk
  rw [e]
  exact ⟨rfl, rfl⟩
theorem hrs5 {n k : Nat} (h : n ≤ 40) (hk : k < n) : hrs ((cast5 n).map Hn.hd) (nameN n k) = Str.ofString "" ∧ rk ((cast5 n).map Hn.hd) (nameN n k) = 5 - (k : Int) := by
  have e := hdOf_hn (cast5_ok h) (x := hn5 n k) (List.mem_map_of_mem (List.mem_range.mpr hk))
  rw [hn5_name, (hn5_rest n k).2.1, (hn5_rest n k).1] at e
  exact e
/-- the first that is heard has the greatest place -/
theorem heard5 {n : Nat} (h : n ≤ 40) {ns : List Str} (hs : ∀ x ∈ ns, x ∈ kn5 n n) (w : Str) (hne : ns ≠ []) : ∃ M tl, heard (cast5 n) ns w = nameN n M :: tl ∧ M < n ∧ nameN n M ∈ ns ∧ (∀ j, j < n → nameN n j ∈ ns → j ≤ M) := by
  have hf : foundF ((cast5 n).map Hn.hd) ns w = ns := by
    unfold foundF
    rw [List.filter_eq_self]
    intro x hx
    obtain ⟨k, hk, rfl⟩ := kn5_mem (hs x hx)
    rw [(hrs5 h hk).1]; simp
  obtain ⟨p, h1, h2, h3⟩ := heard_spec (cast5 n) ns w
  rw [hf] at h1 h2 h3
  cases p with
  | nil =>
    have := h1.length_eq
    simp at this
    exact absurd (List.length_eq_zero_iff.mp this.symm) hne
  | cons i p =>
    have hi : i < ns.length := by simpa using h1.mem_iff.mp (.head _)
    have ei : ns.getD i Str.empty = ns[i] := by simp [hi]
    obtain ⟨M, hM, eM⟩ := kn5_mem (hs _ (List.getElem_mem hi))
    rw [List.map_cons, ei, eM] at h3
    refine ⟨M, _, h3, hM, eM ▸ List.getElem_mem hi, fun j hj hm => ?_⟩
    obtain ⟨q, hq, eq⟩ := List.mem_iff_getElem.mp hm
    have hq2 : q ∈ i :: p := h1.mem_iff.mpr (by simpa using hq)
    rcases List.mem_cons.mp hq2 with rfl | hq3
    · have := nameN_inj (by (first | lia | omega)) (by (first | lia | omega)) (eM.symm.trans eq)
      (first | lia | omega)
    · have := (List.pairwise_cons.mp h2).1 q hq3
      unfold slt at this
      have eq' : ns.getD q Str.empty = nameN n j := by rw [← eq]; simp [hq]
      dsimp only at this
      rw [ei, eM, eq', (hrs5 h hM).2, (hrs5 h hj).2] at this
      simp only [decide_eq_true_eq, decide_eq_false_iff_not] at this
      (first | lia | omega)
theorem heard5_0 {n : Nat} (w : Str) : heard (cast5 n) [] w = [] := by
  obtain ⟨p, h1, h2, h3⟩ := heard_spec (cast5 n) [] w
  have : foundF ((cast5 n).map Hn.hd) [] w = [] := rfl
  rw [this] at h1
  have hp : p = [] := List.Perm.eq_nil (by simpa using h1)
  rw [h3, hp]; rfl
theorem heard_mem {cast : List Hn} {ps : List Str} {w : Str} : (heard cast ps w).length ≤ ps.length ∧ ∀ x ∈ heard cast ps w, x ∈ ps := by
  obtain ⟨p, h1, h2, h3⟩ := heard_spec cast ps w
  have hl : (foundF (cast.map Hn.hd) ps w).length ≤ ps.length := List.length_filter_le ..
  rw [h3]
  refine ⟨by rw [List.length_map, h1.length_eq, List.length_range]; exact hl, fun x hx => ?_⟩
  obtain ⟨i, hi, rfl⟩ := List.mem_map.mp hx
  have hi' : i < (foundF (cast.map Hn.hd) ps w).length := by simpa using h1.mem_iff.mp hi
  have e : (foundF (cast.map Hn.hd) ps w).getD i Str.empty = (foundF (cast.map Hn.hd) ps w)[i] := by simp [hi']
  rw [e]
  exact (List.mem_filter.mp (List.getElem_mem hi')).1

theorem new_small {ns : List Str} (h : ns.length ≤ 60) : (LS.new ns).Small := ⟨h, by simp [LS.new], by simp [LS.new], by simp [LS.new], by simp [LS.new], by simp [LS.new]⟩
theorem new_ok {cast : List Hn} {ns : List Str} (K : COk cast) (h : ns.length ≤ 60) (hs : ∀ x ∈ ns, x ∈ cast.map (·.name)) : (LS.new ns).Ok cast ∧ (LS.new ns).Nums := by
  refine ⟨⟨new_small h, ⟨fun n hn => ?_, fun r hr => (by cases hr)⟩, hs, fun r hr => (by cases hr), fun r hr => (by cases hr), rfl, rfl⟩, ⟨fun n hn => (by cases hn), fun n hn => (by cases hn), fun n hn => (by cases hn), fun e he => (by cases he)⟩⟩
  obtain ⟨x, hx, rfl⟩ := List.mem_map.mp (hs n hn)
  exact K.name x hx
theorem c_fresh (E : LC C) {a : LA} {cast : List Hn} {ns : List Str} {nm : Addr} {rest : List (Addr × O)} {Q : V → Store → Prop} (hr : A.depth + 6 < recursionLimit) (hh : A.handled = none) (hu : A.units < 6000) (K : COk cast) (hds : ∀ h ∈ cast, h.ds.length ≤ 1000) (hz : ns.length ≤ 60) (hs : ∀ x ∈ ns, x ∈ cast.map (·.name))
    (L : LAt σ a [] cast (LS.new ns) ((nm, .list (ns.map V.str)) :: rest)) (h : ∀ σ', LAt σ' a [] cast (LS.new ns) ((nm, .list (ns.map V.str)) :: rest) → Q (.bool true) σ') : CallWP C A (.ref 366) [.ref a.lo, .ref nm] σ Q X := by
  have hK := E.hK
  have hr0 : A.depth < recursionLimit := by (first | lia | omega)
  have Z := new_small hz
  obtain ⟨W, N⟩ := new_ok K hz hs
  have hok : ∀ x ∈ ns, PyData.strOk x = true := W.N.po
  k_extra "mdef2"
  intro fL A' a1 a2 a3
  have hh' : A'.handled = none := a1.trans hh
  have hr1 : A'.depth < recursionLimit := by (first | lia | omega)
  have hr2 : A'.depth + 1 < recursionLimit := by (first | lia | omega)
  have g1 := L.led.get 1 rfl
  have g2 := L.led.get 2 rfl
  repeat k_extra "m"
  refine c_standing hK hr1 hh' L Z.po fun x σ1 hx L1 G1 => ?_
  have q1 : σ1 x = some (.list (ns.map V.str)) := L1.led.at_ (x, _) (by simp [LS.new])
  have q2 : σ1 nm = some (.list (ns.map V.str)) := L1.led.at_ (nm, _) (by simp)
  repeat k_extra "m"
  refine ne_strs (by (first | lia | omega)) q1 q2 hok ?_
  have L2 := L.grow G1
  have g1 := L2.led.get 1 rfl
  have g2 := L2.led.get 2 rfl
  repeat k_extra "m"
  refine c_standing hK hr1 hh' L2 Z.po fun x3 σ3 hx3 L3 G3 => ?_
  have q3 : σ3 x3 = some (.list (ns.map V.str)) := L3.led.at_ (x3, _) (by simp [LS.new])
  have L4 := L2.grow G3
  have g1 := L4.led.get 1 rfl
  have g2 := L4.led.get 2 rfl
  have g5 : σ3 a.ev = some (.list []) := L4.led.get 5 rfl
  have g6 : σ3 a.lg = some (.list []) := L4.led.get 6 rfl
  dsimp only [LS.new] at g2
  repeat k_extra "m"
  intro y1 hy1
  refine ne_nil (by (first | lia | omega)) (Store.at_fresh hy1 g5) Store.hit ?_
  have L5 := L4.grow (Grow.rfl'.fresh (o := .list []) hy1)
  generalize Store.upd σ3 y1 _ = σ5 at L5 ⊢
  have g1 := L5.led.get 1 rfl
  have g2 := L5.led.get 2 rfl
  have g6 : σ5 a.lg = some (.list []) := L5.led.get 6 rfl
  repeat k_extra "m"
  intro y2 hy2
  refine ne_nil (by (first | lia | omega)) (Store.at_fresh hy2 g6) Store.hit ?_
  have L6 := L5.grow (Grow.rfl'.fresh (o := .list []) hy2)
  generalize Store.upd σ5 y2 _ = σ6 at L6 ⊢
  have g1 := L6.led.get 1 rfl
  have g2 := L6.led.get 2 rfl
  repeat k_extra "m"
  refine c_waiting hK hr2 hh' L6 Z rfl (by simp [LS.new]) fun x7 σ7 ps G7 hx7 hp _ q7 => ?_
  have ep : ps = [] := List.Perm.eq_nil hp
  subst ep
  have L7 := L6.grow G7
  have q7 : σ7 x7 = some (.list []) := q7
  repeat k_extra "m"
  intro y3 hy3
  refine eq_nil (by (first | lia | omega)) (Store.at_fresh hy3 q7) Store.hit ?_
  have L8 := L7.grow (Grow.rfl'.fresh (o := .list []) hy3)
  generalize Store.upd σ7 y3 _ = σ8 at L8 ⊢
  have g1 := L8.led.get 1 rfl
  have g2 := L8.led.get 2 rfl
  repeat k_extra "m"
  refine c_around hK hr1 hh' L8 Z fun x9 σ9 hx9 L9 G9 => ?_
  have q9 : σ9 x9 = some (.list []) := L9.led.at_ (x9, _) (by simp [LS.new])
  have L9 := L8.grow G9
  repeat k_extra "m"
  intro y4 hy4
  refine eq_nil (by (first | lia | omega)) (Store.at_fresh hy4 q9) Store.hit ?_
  have L10 := L9.grow (Grow.rfl'.fresh (o := .list []) hy4)
  generalize Store.upd σ9 y4 _ = σ10 at L10 ⊢
  have g1 := L10.led.get 1 rfl
  have g2 := L10.led.get 2 rfl
  repeat k_extra "m"
  refine c_idle hK hr2 hh' L10 Z (by simp [LS.new]) fun σ11 G11 => ?_
  have ei : (LS.new ns).idle = true := rfl
  rw [ei]
  have L11 := L10.grow G11
  have g1 := L11.led.get 1 rfl
  have g2 := L11.led.get 2 rfl
  repeat k_extra "m"
  refine c_step E (by (first | lia | omega)) hh' (by (first | lia | omega)) L11 W N K hds ?_ ?_
  · intro fs' σ' s' e
    cases e
  · intro _
    repeat k_extra "m"
    exact h _ L11

def s5 (ns : List Str) (far : List (Int × Int)) (fr : List Frm) (lg : List Row) : LS := ⟨ns, 0, [⟨Str.ofString "a", none, Str.ofString "wait", 0⟩], lg, [], far, fr, none⟩
theorem s5_ok {cast : List Hn} {ns : List Str} {far : List (Int × Int)} {fr : List Frm} {lg : List Row} (K : COk cast) (h : ns.length ≤ 60) (hs : ∀ x ∈ ns, x ∈ cast.map (·.name)) (hf : far.length ≤ 1 ∧ ∀ p ∈ far, p.2 = 0) (hl : lg.length ≤ 9)
    (h1 : fr.length ≤ 1) (h2 : ∀ r ∈ fr, r.calls.length ≤ 60 ∧ (∀ x ∈ r.calls, x ∈ ns) ∧ r.deeds.length ≤ 1 ∧ ∀ d ∈ r.deeds, d = .hush) : (s5 ns far fr lg).Ok cast ∧ (s5 ns far fr lg).Nums := by
  have hok : ∀ n ∈ ns, PyData.strOk n = true := fun n hn => by
    obtain ⟨x, hx, rfl⟩ := List.mem_map.mp (hs n hn)
    exact K.name x hx
  have hf1 := hf.1
  refine ⟨⟨⟨h, by simp [s5], by simp only [s5]; (first | lia | omega), by simp [s5], by simp only [s5]; (first | lia | omega), by simp only [s5]; (first | lia | omega)⟩, ⟨hok, fun r hr => ?_⟩, hs, fun r hr n hn => hs n ((h2 r hr).2.1 n hn), fun r hr => ?_, rfl, rfl⟩, ⟨fun n hn => (by cases hn), fun n hn => (by cases hn), fun p hp => ?_, fun e he => ?_⟩⟩
  · obtain ⟨z1, z2, _⟩ := h2 r hr
    exact ⟨by (first | lia | omega), fun n hn => hok n (z2 n hn)⟩
  · obtain ⟨_, _, z3, z4⟩ := h2 r hr
    refine ⟨by (first | lia | omega), fun d hd => ?_⟩
    rw [z4 d hd]
    exact ⟨trivial, rfl⟩
  · rw [hf.2 p hp]; simp [s5]
  · rw [List.mem_singleton.mp he]; exact strOk_ofString _
theorem st5_0 (cast : List Hn) (ns : List Str) (lg : List Row) : (s5 ns [(0, 0)] [] lg).step cast = some (s5 ns [] [⟨0, heard cast ns (Str.ofString "a"), []⟩] (lg ++ [.beg 0 0])) := rfl
theorem st5_end (cast : List Hn) (ns : List Str) (lg : List Row) : (s5 ns [] [⟨0, [], []⟩] lg).step cast = some (s5 ns [] [] (lg ++ [.fin 0])) := rfl
theorem st5_no (cast : List Hn) (ns : List Str) (lg : List Row) : (s5 ns [] [] lg).step cast = none := rfl
theorem st5_hush (cast : List Hn) (ns : List Str) (cs : List Str) (lg : List Row) : (s5 ns [] [⟨0, cs, [.hush]⟩] lg).step cast = some (s5 ns [] [⟨0, [], []⟩] (lg ++ [.hush 0])) := rfl
theorem st5_call' {cast : List Hn} {x : Hn} (hf : cast.find? (fun h => h.name == x.name) = some x) (ho : x.once = false) (hd : x.ds = [.hush]) (ns : List Str) (cs : List Str) (lg : List Row) : (s5 ns [] [⟨0, x.name :: cs, []⟩] lg).step cast = some (s5 ns [] [⟨0, cs, [.hush]⟩] (lg ++ [.call 0 x.name])) := by
  have e2 : (s5 ns [] [⟨0, x.name :: cs, []⟩] lg).goOn cast = s5 ns [] [⟨0, cs, [.hush]⟩] (lg ++ [.call 0 x.name]) := by
    show (match cast.find? (fun h => h.name == x.name) with | some h => LS.callIn _ 0 h | none => _) = _
    rw [hf]
    obtain ⟨nm, rk, hr, on, ds⟩ := x
    dsimp only at ho hd
    subst ho hd
    rfl
  show some ((s5 ns [] [⟨0, x.name :: cs, []⟩] lg).goOn cast) = _
  rw [e2]
theorem st5_call {n k : Nat} (h : n ≤ 40) (hk : k < n) (ns : List Str) (cs : List Str) (lg : List Row) : (s5 ns [] [⟨0, nameN n k :: cs, []⟩] lg).step (cast5 n) = some (s5 ns [] [⟨0, cs, [.hush]⟩] (lg ++ [.call 0 (nameN n k)])) := by
  have e := cast5_find h hk
  rw [← hn5_name] at e ⊢
  exact st5_call' e (hn5_rest n k).2.2.1 (hn5_rest n k).2.2.2 ns cs lg
/-- the states, one after another -/
noncomputable def sts5 (n : Nat) (ns : List Str) (lg : List Row) : Option (Nat × List Str) → List LS
  | none => [s5 ns [(0, 0)] [] [.send 0], s5 ns [] [⟨0, [], []⟩] lg, s5 ns [] [] (lg ++ [.fin 0])]
  | some (M, tl) => [s5 ns [(0, 0)] [] [.send 0], s5 ns [] [⟨0, nameN n M :: tl, []⟩] lg, s5 ns [] [⟨0, tl, [.hush]⟩] (lg ++ [.call 0 (nameN n M)]), s5 ns [] [⟨0, [], []⟩] (lg ++ [.call 0 (nameN n M)] ++ [.hush 0]), s5 ns [] [] (lg ++ [.call 0 (nameN n M)] ++ [.hush 0] ++ [.fin 0])]
theorem c_runL (E : LC C) {a : LA} {fs : List FA} {cast : List Hn} {s : LS} {rest : List (Addr × O)} {m : Nat} {sts : List LS} {Q : V → Store → Prop} (hr : A.depth + 5 < recursionLimit) (hh : A.handled = none) (hu : A.units < 6600) (L : LAt σ a fs cast s rest) (K : COk cast) (hds : ∀ h ∈ cast, h.ds.length ≤ 1000)
    (h0 : sts[0]? = some s) (hst : ∀ i s1 s2, sts[i]? = some s1 → sts[i + 1]? = some s2 → s1.step cast = some s2) (hla : ∀ i s1, sts[i]? = some s1 → i + 1 = sts.length → s1.step cast = none) (hok : ∀ s1 ∈ sts, s1.Ok cast ∧ s1.Nums) (hm : sts.length ≤ m)
    (h : ∀ k fs' s' σ', k + 1 = sts.length → sts[k]? = some s' → LAt σ' a fs' cast s' rest → Q (.int (k : Int)) σ') : CallWP C A (.ref 284) [.ref a.lo, .int m] σ Q X := by
  have lt : ∀ {k s1}, sts[k]? = some s1 → k < sts.length := fun e => (List.getElem?_eq_some_iff.mp e).1
  refine c_run E hr hh hu L K hds (fun k s1 => sts[k]? = some s1) h0 (fun k s1 s2 hk e hs => ?_) (fun k s1 _ e => hok s1 (List.mem_of_getElem? e)) fun k fs' s' σ' hk e _ hstop L' => ?_
  · by_cases q : k + 1 < sts.length
    · have e2 := List.getElem?_eq_getElem q
      rw [hst k s1 _ e e2] at hs
      rw [e2, Option.some.inj hs]
    · have := lt e
      rw [hla k s1 e (by (first | lia | omega))] at hs; cases hs
  · have hk2 := lt e
    have hn := hstop (by (first | lia | omega))
    by_cases q : k + 1 < sts.length
    · rw [hst k s' _ e (List.getElem?_eq_getElem q)] at hn; cases hn
    · exact h k fs' s' σ' (by (first | lia | omega)) e L'
def rows5 (n : Nat) : Option (Nat × List Str) → List Row
  | none => [.send 0, .beg 0 0]
  | some (M, _) => [.send 0, .beg 0 0, .call 0 (nameN n M), .hush 0]
def Heads (n : Nat) (ns : List Str) : Option (Nat × List Str) → Prop
  | none => ns = []
  | some (M, tl) => heard (cast5 n) ns (Str.ofString "a") = nameN n M :: tl ∧ M < n
theorem run5 (E : LC C) {n : Nat} (h40 : n ≤ 40) {a : LA} {ns : List Str} {o : Option (Nat × List Str)} {rest : List (Addr × O)} {Q : V → Store → Prop} (hr : A.depth + 5 < recursionLimit) (hh : A.handled = none) (hu : A.units < 6600) (hz : ns.length ≤ 60) (hs : ∀ x ∈ ns, x ∈ kn5 n n) (H : Heads n ns o)
    (L : LAt σ a [] (cast5 n) (s5 ns [(0, 0)] [] [.send 0]) rest) (h : ∀ fs' s' σ', s'.log = rows5 n o ++ [.fin 0] → LAt σ' a fs' (cast5 n) s' rest → Q (.int ((rows5 n o).length : Int)) σ') : CallWP C A (.ref 284) [.ref a.lo, .int 5] σ Q X := by
  have K := cast5_ok h40
  have hs' : ∀ x ∈ ns, x ∈ (cast5 n).map (·.name) := by rw [cast5_names]; exact hs
  have hds : ∀ h ∈ cast5 n, h.ds.length ≤ 1000 := fun x hx => by
    obtain ⟨k, _, rfl⟩ := List.mem_map.mp hx
    rw [(hn5_rest n k).2.2.2]; simp
  have hm := heard_mem (cast := cast5 n) (ps := ns) (w := Str.ofString "a")
  have st0 := st5_0 (cast5 n) ns [.send 0]
  have ok := fun far fr lg => s5_ok (far := far) (fr := fr) (lg := lg) K hz hs'
  cases o with
  | none =>
    have e : ns = [] := H
    subst e
    rw [heard5_0] at st0
    refine c_runL E (m := 5) (sts := sts5 n [] [.send 0, .beg 0 0] none) hr hh hu L K hds rfl ?_ ?_ ?_ (by simp [sts5]) ?_
    · intro i s1 s2 e1 e2
      rcases i with _ | _ | i
      · cases e1; cases e2; exact st0
      · cases e1; cases e2; exact st5_end _ _ _
      · cases e2
    · intro i s1 e1 e2
      obtain rfl : i = 2 := by simpa [sts5] using e2
      cases e1
      exact st5_no _ _ _
    · intro s1 h1
      simp only [sts5, List.mem_cons, List.not_mem_nil, or_false] at h1
      rcases h1 with rfl | rfl | rfl
      · exact ok _ _ _ ⟨by simp, by simp⟩ (by simp) (by simp) (by simp)
      · exact ok _ _ _ ⟨by simp, by simp⟩ (by simp) (by simp) (by simp)
      · exact ok _ _ _ ⟨by simp, by simp⟩ (by simp) (by simp) (by simp)
    · intro k fs' s' σ' e1 e2 L'
      obtain rfl : k = 2 := by simpa [sts5] using e1
      cases e2
      exact h fs' _ σ' rfl L'
  | some p =>
    obtain ⟨M, tl⟩ := p
    obtain ⟨H1, H2⟩ := H
    rw [H1] at st0 hm
    obtain ⟨m1, m2⟩ := hm
    have m3 : tl.length ≤ 60 := by simp at m1; (first | lia | omega)
    have m4 : ∀ x ∈ tl, x ∈ ns := fun x hx => m2 x (.tail _ hx)
    refine c_runL E (m := 5) (sts := sts5 n ns [.send 0, .beg 0 0] (some (M, tl))) hr hh hu L K hds rfl ?_ ?_ ?_ (by simp [sts5]) ?_
    · intro i s1 s2 e1 e2
      rcases i with _ | _ | _ | _ | i
      · cases e1; cases e2; exact st0
      · cases e1; cases e2; exact st5_call h40 H2 _ _ _
      · cases e1; cases e2; exact st5_hush _ _ _ _
      · cases e1; cases e2; exact st5_end _ _ _
      · cases e2
    · intro i s1 e1 e2
      obtain rfl : i = 4 := by simpa [sts5] using e2
      cases e1
      exact st5_no _ _ _
    · intro s1 h1
      simp only [sts5, List.mem_cons, List.not_mem_nil, or_false] at h1
      rcases h1 with rfl | rfl | rfl | rfl | rfl
      · exact ok _ _ _ ⟨by simp, by simp⟩ (by simp) (by simp) (by simp)
      · exact ok _ _ _ ⟨by simp, by simp⟩ (by simp) (by simp) (fun r hr => by rw [List.mem_singleton.mp hr]; exact ⟨by simp at m1 ⊢; (first | lia | omega), m2, by simp, by simp⟩)
      · exact ok _ _ _ ⟨by simp, by simp⟩ (by simp) (by simp) (fun r hr => by rw [List.mem_singleton.mp hr]; exact ⟨m3, m4, by simp, by simp⟩)
      · exact ok _ _ _ ⟨by simp, by simp⟩ (by simp) (by simp) (by simp)
      · exact ok _ _ _ ⟨by simp, by simp⟩ (by simp) (by simp) (by simp)
    · intro k fs' s' σ' e1 e2 L'
      obtain rfl : k = 4 := by simpa [sts5] using e1
      cases e2
      exact h fs' _ σ' rfl L'
theorem idx5 {n k : Nat} (h : n ≤ 40) (hk : k < n) : (kn5 n n).idxOf (nameN n k) = k := by
  have hm : nameN n k ∈ kn5 n n := List.mem_map_of_mem (List.mem_range.mpr hk)
  have hl := List.idxOf_lt_length_of_mem hm
  have e := List.getElem_idxOf hl
  have hl' : (kn5 n n).idxOf (nameN n k) < n := by simpa [kn5] using hl
  have e2 := List.getElem?_eq_getElem hl
  rw [e, kn5_get hl'] at e2
  exact nameN_inj (by (first | lia | omega)) (by (first | lia | omega)) (Option.some.inj e2)
theorem c_goes (E : LC C) {n : Nat} (h40 : n ≤ 40) {a : LA} {ns : List Str} {nm kn : Addr} {rest : List (Addr × O)} {Q : V → Store → Prop} (hr : A.depth + 6 < recursionLimit) (hh : A.handled = none) (hu : A.units < 6000) (hz : ns.length ≤ 60) (hs : ∀ x ∈ ns, x ∈ kn5 n n)
    (L : LAt σ a [] (cast5 n) (LS.new ns) ((nm, .list (ns.map V.str)) :: (kn, .list ((kn5 n n).map V.str)) :: rest)) (h : ∀ fs' s' σ', LAt σ' a fs' (cast5 n) s' rest → Q (.bool true) σ') : CallWP C A (.ref 371) [.ref a.lo, .ref nm, .ref kn] σ Q X := by
  have hK := E.hK
  have hr0 : A.depth < recursionLimit := by (first | lia | omega)
  have hok : ∀ x ∈ ns, PyData.strOk x = true := fun x hx => kn5_ok h40 x (hs x hx)
  k_extra "mdef3"
  intro fL A' a1 a2 a3
  have hh' : A'.handled = none := a1.trans hh
  have hr1 : A'.depth < recursionLimit := by (first | lia | omega)
  have g1 := L.led.get 1 rfl
  have g2 := L.led.get 2 rfl
  repeat k_extra "m"
  refine c_send hK (by (first | lia | omega)) hh' L (new_small hz) (by decide +kernel) (by decide +kernel) fun σ1 L1 => ?_
  have L1 : LAt σ1 a [] (cast5 n) (s5 ns [(0, 0)] [] [.send 0]) ((nm, .list (ns.map V.str)) :: (kn, .list ((kn5 n n).map V.str)) :: rest) := L1
  repeat k_extra "m"
  intro x hx
  have L2 := L1.new (.list ([Row.send 0, .beg 0 0].map Row.v)) hx
  dsimp only [List.map, Row.v] at L2
  generalize Store.upd σ1 x _ = σ2 at L2 ⊢
  k_extra "m"
  k_extra "m"
  refine Exs.cut (fun ρ' σ' => ∃ y o, LAt σ' a [] (cast5 n) (s5 ns [(0, 0)] [] [.send 0]) ((y, .list ((rows5 n o).map Row.v)) :: (nm, .list (ns.map V.str)) :: (kn, .list ((kn5 n n).map V.str)) :: rest) ∧ Heads n ns o ∧ ρ'.get "_law_rows" = some (.ref y) ∧ ρ'.get "_law_loom" = some (.ref a.lo)) ?_ ?_
  · have q0 := L2.getR 0 rfl
    have q1 : σ2 nm = some (.list (ns.map V.str)) := L2.getR 1 rfl
    have q2 : σ2 kn = some (.list ((kn5 n n).map V.str)) := L2.getR 2 rfl
    repeat k_extra "m"
    by_cases he : ns = []
    · subst he
      refine Br.f rfl ?_
      repeat k_extra "m"
      exact ⟨rfl, x, none, L2, rfl, by k_extra "mget", by k_extra "mget"⟩
    · obtain ⟨M, tl, H1, H2, H3, H4⟩ := heard5 h40 hs (Str.ofString "a") he
      refine Br.t (by cases ns with | nil => exact absurd rfl he | cons => rfl) ?_
      repeat k_extra "m"
      refine ⟨_, _, ItV.list hh' (.inl q1), fun L' => ?_⟩
      refine CmpL.pure (fun _ => true) (fun y => match y with | .str x => .int (((kn5 n n).idxOf x : Nat) : Int) | _ => .none) (.inl q1) _ _ ?_ ?_ (by simp [sizeLine_eq]; (first | lia | omega)) ?_
      · intro y hy Q hQ
        repeat k_extra "m"
        exact hQ
      · intro y hy _ Q hQ
        obtain ⟨z, hz', rfl⟩ := List.mem_map.mp hy
        repeat k_extra "m"
        exact CallWP.indexStr q2 (hs z hz') (kn5_ok h40) (by (first | lia | omega)) (by simp [kn5]; (first | lia | omega)) hQ
      intro c hc
      have e : ([] : List V) ++ List.map (fun y => match y with | .str x => .int (((kn5 n n).idxOf x : Nat) : Int) | _ => .none) (List.filter (fun _ => true) (ns.map V.str)) = (ns.map fun x => (((kn5 n n).idxOf x : Nat) : Int)).map V.int := by
        rw [List.nil_append, List.filter_eq_self.mpr (fun _ _ => rfl), List.map_map, List.map_map]; rfl
      rw [e]
      have L3 := L2.new (.list ((ns.map fun x => (((kn5 n n).idxOf x : Nat) : Int)).map V.int)) hc
      generalize Store.upd σ2 c _ = σ3 at L3 ⊢
      have q0 := L3.getR 1 rfl
      have q2 : σ3 kn = some (.list ((kn5 n n).map V.str)) := L3.getR 3 rfl
      repeat k_extra "m"
      refine CallWP.maxInts hh' (L3.getR 0 rfl) (by simpa using he) fun M2 hM hM2 => ?_
      have eM : M2 = (M : Int) := by
        obtain ⟨z, hz', rfl⟩ := List.mem_map.mp hM
        obtain ⟨k, hk, rfl⟩ := kn5_mem (hs z hz')
        have h1 := H4 k hk hz'
        have h2 := hM2 _ (List.mem_map_of_mem H3)
        rw [idx5 h40 hk] at h2 ⊢
        rw [idx5 h40 H2] at h2
        (first | lia | omega)
      subst eM
      have L3 := L3.drop
      repeat k_extra "m"
      refine ItemWP.list (y := .str (nameN n M)) (.inl q2) (by (first | lia | omega)) (by (first | lia | omega)) (by rw [Int.toNat_natCast, List.getElem?_map, kn5_get H2]; rfl) ?_
      repeat k_extra "m"
      intro z hz'
      have L4 := L3.new (.list ([Row.call 0 (nameN n M), .hush 0].map Row.v)) hz'
      dsimp only [List.map, Row.v] at L4
      generalize Store.upd σ3 z _ = σ4 at L4 ⊢
      refine BinWP.cat (.inl (L4.getR 1 rfl)) (.inl (L4.getR 0 rfl)) (by simp [sizeLine_eq]) fun y hy => ?_
      have L5 := L4.drop.drop.new (.list ((rows5 n (some (M, tl))).map Row.v)) hy
      repeat k_extra "m"
      exact ⟨rfl, y, some (M, tl), L5, ⟨H1, H2⟩, by k_extra "mget", by k_extra "mget"⟩
  rintro ρ2 σ5 ⟨y, o, L5, H, r1, r2⟩
  have g1 := L5.led.get 1 rfl
  have g2 := L5.led.get 2 rfl
  repeat k_extra "m"
  refine run5 E h40 (by (first | lia | omega)) hh' (by (first | lia | omega)) hz hs H L5 fun fs' s' σ6 e6 L6 => ?_
  have hl6 : (rows5 n o).length ≤ 4 := by cases o <;> simp [rows5]
  have q0 := L6.getR 0 rfl
  have g1 := L6.led.get 1 rfl
  have g2 := L6.led.get 2 rfl
  have g6 := L6.led.get 6 rfl
  repeat k_extra "m"
  intro z hz'
  have L7 := L6.new (.list ([Row.fin 0].map Row.v)) hz'
  dsimp only [List.map, Row.v] at L7
  generalize Store.upd σ6 z _ = σ7 at L7 ⊢
  refine BinWP.cat (.inl (L7.getR 1 rfl)) (.inl (L7.getR 0 rfl)) (by simp [sizeLine_eq]; (first | lia | omega)) fun y2 hy2 => ?_
  have L8 := L7.new (.list ((rows5 n o ++ [Row.fin 0]).map Row.v)) hy2
  have e8 : (rows5 n o).map Row.v ++ [V.tup [V.str (Str.ofString "end"), V.int 0]] = (rows5 n o ++ [Row.fin 0]).map Row.v := by rw [List.map_append]; rfl
  rw [e8]
  generalize Store.upd σ7 y2 _ = σ8 at L8 ⊢
  have g6 : σ8 a.lg = some (.list ((rows5 n o ++ [Row.fin 0]).map Row.v)) := by rw [← e6]; exact L8.led.get 6 rfl
  refine eq_rows (by (first | lia | omega)) g6 (L8.getR 0 rfl) (fun r hr => ?_) ?_
  · cases o with
    | none =>
      simp only [rows5, List.cons_append, List.nil_append, List.mem_cons, List.not_mem_nil, or_false] at hr
      rcases hr with rfl | rfl | rfl <;> trivial
    | some p =>
      simp only [rows5, List.cons_append, List.nil_append, List.mem_cons, List.not_mem_nil, or_false] at hr
      rcases hr with rfl | rfl | rfl | rfl | rfl
      · trivial
      · trivial
      · exact nameN_ok n p.1 (by have := H.2; (first | lia | omega))
      · trivial
      · trivial
  repeat k_extra "m"
  exact h fs' s' _ L8.drop.drop.drop.drop.drop

theorem dueV_le (kn : List Str) : ∀ (vs : List V) (seen : List Str), dueV kn seen vs = 0 ∨ dueV kn seen vs = 1 ∨ dueV kn seen vs = 2
  | [], _ => .inl rfl
  | v :: vs, seen => by
    cases v with
    | str x =>
      rw [dueV_str]
      have ih := dueV_le kn vs (seen ++ [x])
      split
      · split
        · exact .inr (.inr rfl)
        · exact ih
      · exact .inr (.inl rfl)
    | _ => exact .inr (.inl rfl)
theorem NmOk.updL {σ : Store} {v : V} {nm : Addr} {xs ys : List V} (h : NmOk σ v) (hn : σ nm = some (.list xs)) : NmOk (σ.upd nm (.list ys)) v := by
  rcases h with h | h | h | h | ⟨l, zs, h, e⟩ | ⟨l, es, h, e⟩
  · exact .inl h
  · exact .inr (.inl h)
  · exact .inr (.inr (.inl h))
  · exact .inr (.inr (.inr (.inl h)))
  · by_cases q : l = nm
    · subst q; exact .inr (.inr (.inr (.inr (.inl ⟨l, ys, h, Store.hit⟩))))
    · exact .inr (.inr (.inr (.inr (.inl ⟨l, zs, h, Store.miss q e⟩))))
  · exact .inr (.inr (.inr (.inr (.inr ⟨l, es, h, Store.miss (Store.ne_kind e hn (by simp [O.kind])) e⟩))))
theorem nameN_len (c k : Nat) (hk : k < 676) : 1 ≤ (nameN c k).length ∧ (nameN c k).length ≤ 12 ∧ ∀ x ∈ (nameN c k).cps.toList, x < 128 := by
  have h := nameN_isW c k hk
  unfold isW at h
  simp only [Bool.and_eq_true, decide_eq_true_eq] at h
  refine ⟨h.1.1, h.1.2, fun x hx => ?_⟩
  rw [nameN_cut] at hx
  simp only [List.mem_append, List.mem_cons, List.not_mem_nil, or_false] at hx
  rcases hx with h | (h | h) | h
  · have := ahead_ok x (List.mem_of_mem_take h); (first | lia | omega)
  · (first | lia | omega)
  · (first | lia | omega)
  · have := behind_ok x (List.mem_of_mem_take (List.mem_of_mem_take h)); (first | lia | omega)
/-- a value is put in somewhere -/
theorem mem_put {α : Type} {xs : List α} {k : Nat} {x y : α} (h : y ∈ xs.take k ++ x :: xs.drop k) : y = x ∨ y ∈ xs := by
  rcases List.mem_append.mp h with h | h
  · exact .inr (List.mem_of_mem_take h)
  · rcases List.mem_cons.mp h with h | h
    · exact .inl h
    · exact .inr (List.mem_of_mem_drop h)
theorem len_put {α : Type} (xs : List α) (k : Nat) (x : α) : (xs.take k ++ x :: xs.drop k).length = xs.length + 1 := by
  have := congrArg List.length (List.take_append_drop k xs)
  rw [List.length_append] at this
  rw [List.length_append, List.length_cons]; (first | lia | omega)
/-- what the law told stands beside -/
def dl5 (als : List Addr) : List (Addr × O) := als.map fun l => (l, .list [Deed.v .hush])
def tv5 (n : Nat) (als : List Addr) : List V := (hs5 n als).map fun p => p.1.tv p.2
def r5 (n : Nat) (als : List Addr) (kn hl' : Addr) : List (Addr × O) := (kn, .list ((kn5 n n).map V.str)) :: (hl', .list (tv5 n als)) :: (dl5 als ++ [tabE])
def Nm5 (σ : Store) (vs : List V) : Prop := (∀ v ∈ vs, NmOk σ v) ∧ ∀ v ∈ vs, SelfOk v
theorem Nm5.grow {σ σ' : Store} {vs : List V} (h : Nm5 σ vs) (g : Grow σ σ') : Nm5 σ' vs := ⟨fun v hv => (h.1 v hv).grow g, h.2⟩
theorem Nm5.put {σ : Store} {vs xs ys : List V} {v : V} {nm : Addr} {k : Nat} (h : Nm5 σ vs) (hv : NmOk σ v) (hv2 : SelfOk v) (hn : σ nm = some (.list xs)) : Nm5 (σ.upd nm (.list ys)) (vs.take k ++ v :: vs.drop k) := by
  refine ⟨fun u hu => ?_, fun u hu => ?_⟩
  · rcases mem_put hu with rfl | hu
    · exact hv.updL hn
    · exact (h.1 u hu).updL hn
  · rcases mem_put hu with rfl | hu
    · exact hv2
    · exact h.2 u hu
theorem ne_tv5 {n : Nat} {als : List Addr} {l m : Addr} {Q : V → Store → Prop} (hu : A.units < 9000) (h40 : als.length ≤ 40) (h1 : σ l = some (.list (tv5 n als))) (h2 : σ m = some (.list (tv5 n als))) (ha : ∀ x ∈ als, σ x = some (.list [Deed.v .hush])) (h : Q (.bool false) σ) : CmpWP C A .NotEq (.ref l) (.ref m) σ Q X := by
  have e : tv5 n als = als.zipIdx.map fun p => V.tup [.str (nameN n p.2), .int (5 - (p.2 : Int)), .str (Str.ofString ""), .bool false, .ref p.1] := by
    unfold tv5 hs5
    rw [List.map_map]; rfl
  have hd : ∀ p ∈ als.zipIdx, DR C σ (V.tup [.str (nameN n p.2), .int (5 - (p.2 : Int)), .str (Str.ofString ""), .bool false, .ref p.1]) (.tuple [.str (nameN n p.2), .int (5 - (p.2 : Int)), .str (Str.ofString ""), .bool false, .list [.tuple [.str (Str.ofString "hush")]]]) := fun p hp =>
    .tup (.cons (.str _) (.cons (.int _) (.cons (.str _) (.cons (.bool _) (.cons (.list (.inl (ha p.1 (List.fst_mem_of_mem_zipIdx hp))) (.cons (.tup (.cons (.str _) .nil)) .nil)) .nil)))))
  rw [e] at h1 h2
  refine CmpWP.neSame (.list (.inl h1) (DRs.map hd)) (.list (.inl h2) (DRs.map hd)) ?_ ?_ h
  · simp only [PyData.canLay0]
    refine canLayAll_map fun p hp => ?_
    have := List.snd_lt_of_mem_zipIdx hp
    have hk : PyData.strOk (nameN n p.2) = true := nameN_ok n p.2 (by simp at this; (first | lia | omega))
    simp [PyData.canLay0, PyData.canLayAll0, hk, strOk_ofString]
  · have := depthAll_map (k := 5) (g := fun p : Addr × Nat => PyData.tuple [.str (nameN n p.2), .int (5 - (p.2 : Int)), .str (Str.ofString ""), .bool false, .list [.tuple [.str (Str.ofString "hush")]]]) (xs := als.zipIdx) fun p hp => by simp [PyData.depth, PyData.depthAll]
    simp only [PyData.depth, cLine]; (first | lia | omega)
theorem f_ref5 (hK : C.K = KL C.w.params) (hS : SysOk C) (hlo : C.loose) {ll : List Env} {bm : List Value} {newId B initId : String} (OS : OwnCls (Str.ofString "Stranger") 73 bm newId C.mg C.h₀) (OT : OwnCls (Str.ofString "Twice") 61 bm newId C.mg C.h₀) (FB : ExcBaseFacts B newId initId bm)
    {l l2 : Addr} {way : Int} {n d : Nat} {als : List Addr} {vs : List V} {Q : V → Store → Prop} (hr : A.depth + 8 < recursionLimit) (hh : A.handled = none) (hu : A.units < 5800) (hfr : A.frames = some ll) (h40 : als.length ≤ 40) (hal : ∀ x ∈ als, σ x = some (.list [Deed.v .hush])) (hl : σ l = some (.list (tv5 n als)))
    (hl2 : σ l2 = some (.list vs)) (hz : vs.length ≤ 200) (hnm : ∀ v ∈ vs, NmOk σ v) (hd : dueV (kn5 n als.length) [] vs = d) (h0 : d ≠ 0) (h : ∀ σ', Grow σ σ' → Q (.str (dueS d)) σ') : CallF C A ll (.ref 345) [.ref l, .ref l2, .int way] σ Q X := by
  have T := hs5_told (n := n) h40 hal
  have ok : ∀ x ∈ (hs5 n als).map (·.1.name), PyData.strOk x = true := by rw [hs5_names]; exact kn5_ok h40
  rcases dueV_le (kn5 n als.length) vs [] with e | e | e
  · exact absurd (hd.symm.trans e) h0
  · rw [hd] at e; subst e
    exact f_refused hK hS hlo OS OT FB (D := 73) hr hh hu hfr T hl hl2 hz ok hnm (by rw [hK]; exact kindStranger _) rfl (by rw [hs5_names, hd]; decide) (fun _ => rfl) (by rw [hs5_names, hd]; intro z; cases z) rfl h
  · rw [hd] at e; subst e
    exact f_refused hK hS hlo OS OT FB (D := 61) hr hh hu hfr T hl hl2 hz ok hnm (by rw [hK]; exact kindTwice _) rfl (by rw [hs5_names, hd]; decide) (by rw [hs5_names, hd]; intro z; cases z) (fun _ => rfl) rfl h
theorem c_law (hK : C.K = KL C.w.params) (hS : SysOk C) (hB : BMod C) (Cd : CodeHd C.h₀ 135 133) (hlo : C.loose) {bm : List Value} {newId B initId : String} (OS : OwnCls (Str.ofString "Stranger") 73 bm newId C.mg C.h₀) (OT : OwnCls (Str.ofString "Twice") 61 bm newId C.mg C.h₀) (FB : ExcBaseFacts B newId initId bm) {l : Addr} {cs : List Int} (hl : BaseL C l (cs.map V.int)) (hn : cs.length ≤ 63) :
    CallWP C callerA (.ref 376) [.ref l] (Store.upd (fun _ => none) 133 (.tab ⟨82, 29, 82, 58⟩ lamQ)) (fun v σ' => v = .bool true ∧ ∃ o, σ' 133 = some o ∧ ∃ pos' q', o = .tab pos' q') (fun _ _ => False) := by
  have E : LC C := ⟨hK, hB, Cd⟩
  have hr0 : callerA.depth < recursionLimit := by decide
  have M0 : Led (Store.upd (fun _ => none) 133 (.tab ⟨82, 29, 82, 58⟩ lamQ)) [tabE] := Led.nil.new (.tab ⟨82, 29, 82, 58⟩ lamQ) rfl
  generalize Store.upd (fun _ => none) 133 (.tab ⟨82, 29, 82, 58⟩ lamQ) = σ at *
  refine' CallWP.def1O _ (by k_extra "mK") (by k_extra "mK") (by assumption) (by intro _; with_unfolding_all rfl) (by decide +kernel) (by kernel_rfl!) (by kernel_rfl!) (by rfl) (by rfl) (by rfl) (by rfl) ?_
  intro fL A' a1 a2 a3 a4
  have hh' : A'.handled = none := a1
  have hr' : A'.depth + 10 < recursionLimit := by rw [a2]; decide
  have hr1 : A'.depth < recursionLimit := by (first | lia | omega)
  have hu : A'.units < 5000 := by rw [a3]; decide
  have hcs : cs.length ≤ 1000 := by (first | lia | omega)
  repeat k_extra "m"
  refine c_told (i := 0) hK hr1 hh' (.inr hl) hcs (by (first | lia | omega)) ?_
  generalize cs.getD 0 0 = b
  k_extra "m"
  k_extra "m"
  refine Exs.cut (fun ρ' σ' => σ' = σ ∧ ∃ n : Int, ρ'.get "_law_count" = some (.int n) ∧ ρ'.get "_law_script" = some (.ref l) ∧ ρ'.get "_law_base" = some (.int b) ∧ (1 ≤ n ∧ n ≤ 6)) ?_ ?_
  · have b0 : 0 ≤ b.fmod 6 := Int.fmod_nonneg_of_pos _ (by (first | lia | omega))
    have b1 : b.fmod 6 < 6 := Int.fmod_lt_of_pos _ (by (first | lia | omega))
    repeat k_extra "m"
    exact ⟨rfl, rfl, _, by k_extra "mget", by k_extra "mget", by k_extra "mget", by (first | lia | omega), by (first | lia | omega)⟩
  rintro ρ1 σ1 ⟨rfl, n0, p1, p2, p3, p4, p5⟩
  refine Exs.cut (fun ρ' σ' => σ' = σ1 ∧ ∃ n : Nat, ρ'.get "_law_count" = some (.int (n : Int)) ∧ ρ'.get "_law_script" = some (.ref l) ∧ 1 ≤ n ∧ n ≤ 40) ?_ ?_
  · repeat k_extra "m"
    refine Br.both ?_ ?_
    · repeat k_extra "m"
      exact ⟨rfl, rfl, 40, by show _ = some (V.int 40); k_extra "mget", by k_extra "mget", by (first | lia | omega), by (first | lia | omega)⟩
    · repeat k_extra "m"
      refine ⟨rfl, rfl, n0.toNat, ?_, by k_extra "mget", by (first | lia | omega), by (first | lia | omega)⟩
      rw [Int.toNat_of_nonneg (by (first | lia | omega))]; exact p1
  clear p1 p2 p3
  rintro ρ1 σ2 ⟨rfl, n, p1, p2, n1, n40⟩
  clear p4 p5
  have er : irange 0 (n : Int) = (List.range' 0 n).map fun (i : Nat) => V.int (i : Int) := by
    unfold irange
    rw [List.range_eq_range']
    simp
  repeat k_extra "m"
  refine ⟨_, _, ItV.rng hh' (by (first | lia | omega)) (by (first | lia | omega)) (by (first | lia | omega)) (by (first | lia | omega)), fun L' => ?_⟩
  rw [er]
  refine CmpL.inv (fun (i : Nat) => V.int (i : Int)) (fun ys out σ3 => ∃ als : List Addr, ys = List.range' als.length (n - als.length) ∧ als.length ≤ n ∧ Led σ3 (dl5 als ++ [tabE]) ∧ out = tv5 n als) ?_ ?_ _ _ _ ⟨[], by simp, by simp, M0, rfl⟩
  · rintro i ys out σ3 ⟨als, e, hlen, M, rfl⟩
    have hlt : als.length < n := by
      cases z : n - als.length with
      | zero => rw [z] at e; cases e
      | succ m => (first | lia | omega)
    rw [show n - als.length = (n - (als.length + 1)) + 1 by (first | lia | omega), List.range'_succ] at e
    obtain ⟨rfl, rfl⟩ := List.cons.inj e
    repeat k_extra "m"
    refine c_name2 (c := n) (k := als.length) hK hr1 hh' (by (first | lia | omega)) (by (first | lia | omega)) ?_
    repeat k_extra "m"
    intro x hx
    repeat k_extra "m"
    refine ⟨by rw [tv5, List.length_map, hs5_len, sizeLine_eq]; (first | lia | omega), trivial, als ++ [x], by simp, by simp; (first | lia | omega), ?_, ?_⟩
    · refine (M.new (.list [Deed.v .hush]) hx).perm ?_
      unfold dl5
      rw [List.map_append, List.append_assoc]
      exact List.perm_middle
    · unfold tv5
      rw [hs5_snoc, List.map_append]; rfl
  rintro out σ3 ⟨als, e, hlen, M3, rfl⟩
  have hla : als.length = n := by
    have := congrArg List.length e
    simp at this; (first | lia | omega)
  intro hl' hhl'
  have M4 := M3.new (.list (tv5 n als)) hhl'
  generalize Store.upd σ3 hl' _ = σ4 at M4 ⊢
  have g0 := M4.get 0 rfl
  repeat k_extra "m"
  refine ⟨_, _, ItV.list hh' (.inl g0), fun L' => ?_⟩
  refine CmpL.pure (fun _ => true) (fun y => match y with | .tup (x :: _) => x | _ => .none) (.inl g0) _ _ ?_ ?_ (by simp [tv5, hs5_len, sizeLine_eq]; (first | lia | omega)) ?_
  · intro y hy Q hQ
    repeat k_extra "m"
    exact hQ
  · intro y hy _ Q hQ
    obtain ⟨p, hp, rfl⟩ := List.mem_map.mp hy
    simp only [Hn.tv]
    repeat k_extra "m"
    exact hQ
  intro kn hkn
  have e2 : ([] : List V) ++ List.map (fun y => match y with | .tup (x :: _) => x | _ => .none) (List.filter (fun _ => true) (tv5 n als)) = (kn5 n n).map V.str := by
    rw [List.nil_append, List.filter_eq_self.mpr (fun _ _ => rfl), tv5, List.map_map, ← hla, ← hs5_names, List.map_map, hla]; rfl
  rw [e2]
  have M5 : Led _ (r5 n als kn hl') := M4.new (.list ((kn5 n n).map V.str)) hkn
  generalize Store.upd σ4 kn _ = σ5 at M5 ⊢
  repeat k_extra "m"
  intro nm hnm
  have M6 := M5.new (.list (([] : List Str).map V.str)) hnm
  dsimp only [List.map] at M6
  generalize Store.upd σ5 nm _ = σ6 at M6 ⊢
  repeat k_extra "m"
  refine ⟨_, _, ItV.rng hh' (by (first | lia | omega)) (by (first | lia | omega)) (by (first | lia | omega)) (by (first | lia | omega)), ?_⟩
  rw [er]
  refine ForL.inv (fun (i : Nat) => V.int (i : Int)) (fun rest ρ σ7 => ∃ (i : Nat) (ns : List Str), rest = List.range' i (n - i) ∧ i ≤ n ∧ ns.length ≤ i ∧ (∀ x ∈ ns, x ∈ kn5 n n) ∧ Led σ7 ((nm, .list (ns.map V.str)) :: r5 n als kn hl') ∧ ρ.get "_law_names" = some (.ref nm) ∧ ρ.get "_law_known" = some (.ref kn) ∧ ρ.get "_law_handlers" = some (.ref hl') ∧ ρ.get "_law_script" = some (.ref l) ∧ ρ.get "_law_count" = some (.int (n : Int))) ?_ ?_ _ _ _ ⟨0, [], by simp, by (first | lia | omega), by simp, (fun _ z => by cases z), M6, by k_extra "mget", by k_extra "mget", by k_extra "mget", by k_extra "mget", by k_extra "mget"⟩
  · rintro j js ρ σ7 ⟨i, ns, e, hi, hnl, hsub, M, r1, r2, r3, r4, r5'⟩
    have hlt : i < n := by
      cases z : n - i with
      | zero => rw [z] at e; cases e
      | succ m => (first | lia | omega)
    rw [show n - i = (n - (i + 1)) + 1 by (first | lia | omega), List.range'_succ] at e
    obtain ⟨rfl, rfl⟩ := List.cons.inj e
    have q0 := M.get 0 rfl
    have q1 := M.get 1 rfl
    repeat k_extra "m"
    have e3 : (3 : Int) + (j : Int) = ((3 + j : Nat) : Int) := by (first | lia | omega)
    rw [e3]
    refine c_told hK hr1 hh' (.inr hl) hcs (by (first | lia | omega)) ?_
    generalize cs.getD (3 + j) 0 = cell
    repeat k_extra "m"
    refine Br.both ?_ ?_
    · repeat k_extra "m"
      refine BinWP.fmod_int (by rw [List.length_map]; (first | lia | omega)) ?_
      have b0 : 0 ≤ (cell.fdiv 3).fmod (((ns.map V.str).length : Int) + 1) := Int.fmod_nonneg_of_pos _ (by (first | lia | omega))
      have b1 : (cell.fdiv 3).fmod (((ns.map V.str).length : Int) + 1) < ((ns.map V.str).length : Int) + 1 := Int.fmod_lt_of_pos _ (by (first | lia | omega))
      generalize (cell.fdiv 3).fmod (((ns.map V.str).length : Int) + 1) = pl at b0 b1 ⊢
      rw [List.length_map] at b1
      repeat k_extra "m"
      refine ItemWP.list (y := .str (nameN n j)) (.inl q1) (by (first | lia | omega)) (by (first | lia | omega)) (by rw [Int.toNat_natCast, List.getElem?_map, kn5_get hlt]; rfl) ?_
      repeat k_extra "m"
      refine CallWP.insert q0 b0 (by rw [List.length_map]; (first | lia | omega)) (by rw [List.length_map]; (first | lia | omega)) ?_
      have M7 := M.set 0 (.list ((ns.take pl.toNat ++ nameN n j :: ns.drop pl.toNat).map V.str)) rfl
      rw [List.map_append, List.map_cons, List.map_take, List.map_drop] at M7
      repeat k_extra "m"
      refine ⟨trivial, j + 1, ns.take pl.toNat ++ nameN n j :: ns.drop pl.toNat, rfl, by (first | lia | omega), by rw [len_put]; (first | lia | omega), fun x hx => ?_, ?_, by k_extra "mget", by k_extra "mget", by k_extra "mget", by k_extra "mget", by k_extra "mget"⟩
      · rcases mem_put hx with rfl | hx
        · exact List.mem_map_of_mem (List.mem_range.mpr hlt)
        · exact hsub x hx
      · rw [List.map_append, List.map_cons, List.map_take, List.map_drop]
        exact M7
    · repeat k_extra "m"
      exact ⟨trivial, j + 1, ns, rfl, by (first | lia | omega), by (first | lia | omega), hsub, M, by k_extra "mget", by k_extra "mget", by k_extra "mget", by k_extra "mget", by k_extra "mget"⟩
  rintro ρ2 σ7 ⟨i, ns, e7, hi, hnl, hsub, M7, r1, r2, r3, r4, r5'⟩
  clear e7
  have q0 := M7.get 0 rfl
  have nmok : Nm5 σ7 (ns.map V.str) := by
    refine ⟨fun v hv => ?_, fun v hv => ?_⟩
    · obtain ⟨x, hx, rfl⟩ := List.mem_map.mp hv
      exact (NmOk.ofS (kn5_ok n40 x (hsub x hx))).1
    · obtain ⟨x, hx, rfl⟩ := List.mem_map.mp hv
      exact .inl ⟨x, rfl, kn5_ok n40 x (hsub x hx)⟩
  repeat k_extra "m"
  refine c_told (i := 1) hK hr1 hh' (.inr hl) hcs (by (first | lia | omega)) ?_
  repeat k_extra "m"
  refine c_told (i := 1) hK hr1 hh' (.inr hl) hcs (by (first | lia | omega)) ?_
  generalize cs.getD 1 0 = cw
  repeat k_extra "m"
  refine BinWP.fmod_int (by rw [List.length_map]; (first | lia | omega)) ?_
  have b0 : 0 ≤ (cw.fdiv 3).fmod (((ns.map V.str).length : Int) + 1) := Int.fmod_nonneg_of_pos _ (by (first | lia | omega))
  have b1 : (cw.fdiv 3).fmod (((ns.map V.str).length : Int) + 1) < ((ns.map V.str).length : Int) + 1 := Int.fmod_lt_of_pos _ (by (first | lia | omega))
  generalize (cw.fdiv 3).fmod (((ns.map V.str).length : Int) + 1) = pl at b0 b1 ⊢
  rw [List.length_map] at b1
  generalize cw.fmod 3 = way
  k_extra "m"
  k_extra "m"
  refine Exs.cut (fun ρ' σ' => ∃ vs : List V, Led σ' ((nm, .list vs) :: r5 n als kn hl') ∧ Nm5 σ' vs ∧ ns.length ≤ vs.length ∧ vs.length ≤ 41 ∧ ρ'.get "_law_names" = some (.ref nm) ∧ ρ'.get "_law_known" = some (.ref kn) ∧ ρ'.get "_law_handlers" = some (.ref hl') ∧ ρ'.get "_law_script" = some (.ref l) ∧ ρ'.get "_law_count" = some (.int (n : Int)) ∧ ρ'.get "_law_way" = some (.int way) ∧ ρ'.get "_law_place" = some (.int pl)) ?_ ?_
  · have q1 := M7.get 1 rfl
    repeat k_extra "m"
    refine Br.both ?_ ?_
    · repeat k_extra "m"
      refine c_told (i := 2) hK hr1 hh' (.inr hl) hcs (by (first | lia | omega)) ?_
      repeat k_extra "m"
      refine BinWP.fmod_int (by (first | lia | omega)) ?_
      have c0 : 0 ≤ ((cs.getD 2 0).fdiv 15).fmod (n : Int) := Int.fmod_nonneg_of_pos _ (by (first | lia | omega))
      have c1 : ((cs.getD 2 0).fdiv 15).fmod (n : Int) < (n : Int) := Int.fmod_lt_of_pos _ (by (first | lia | omega))
      generalize ((cs.getD 2 0).fdiv 15).fmod (n : Int) = k at c0 c1 ⊢
      obtain ⟨k, rfl⟩ := Int.eq_ofNat_of_zero_le c0
      have hk : k < n := by (first | lia | omega)
      refine ItemWP.list (y := .str (nameN n k)) (.inl q1) (by (first | lia | omega)) (by (first | lia | omega)) (by rw [Int.toNat_natCast, List.getElem?_map, kn5_get hk]; rfl) ?_
      repeat k_extra "m"
      refine c_told (i := 2) hK hr1 hh' (.inr hl) hcs (by (first | lia | omega)) ?_
      repeat k_extra "m"
      obtain ⟨x1, x2, x3⟩ := nameN_len n k (by (first | lia | omega))
      refine c_near hK hr1 hh' x1 x2 x3 fun v σ8 G8 hv hv2 => ?_
      have M8 := M7.grow G8
      have q0 := M8.get 0 rfl
      repeat k_extra "m"
      refine CallWP.insert q0 b0 (by rw [List.length_map]; (first | lia | omega)) (by rw [List.length_map]; (first | lia | omega)) ?_
      have M9 := M8.set 0 (.list ((ns.map V.str).take pl.toNat ++ v :: (ns.map V.str).drop pl.toNat)) rfl
      repeat k_extra "m"
      refine ⟨rfl, _, M9, (nmok.grow G8).put hv hv2 q0, by rw [len_put, List.length_map]; (first | lia | omega), by rw [len_put, List.length_map]; (first | lia | omega), by k_extra "mget", by k_extra "mget", by k_extra "mget", by k_extra "mget", by k_extra "mget", by k_extra "mget", by k_extra "mget"⟩
    · repeat k_extra "m"
      exact ⟨rfl, ns.map V.str, M7, nmok, by simp, by rw [List.length_map]; (first | lia | omega), by k_extra "mget", by k_extra "mget", by k_extra "mget", by k_extra "mget", by k_extra "mget", by k_extra "mget", by k_extra "mget"⟩
  clear r1 r2 r3 r4 r5' nmok M7 q0
  rintro ρ3 σ8 ⟨vs, M8, N8, v1, v2, r1, r2, r3, r4, r5', r6, r7⟩
  refine Exs.cut (fun ρ' σ' => ∃ vs : List V, Led σ' ((nm, .list vs) :: r5 n als kn hl') ∧ Nm5 σ' vs ∧ vs.length ≤ 42 ∧ ρ'.get "_law_names" = some (.ref nm) ∧ ρ'.get "_law_known" = some (.ref kn) ∧ ρ'.get "_law_handlers" = some (.ref hl')) ?_ ?_
  · have q0 := M8.get 0 rfl
    have q1 := M8.get 1 rfl
    repeat k_extra "m"
    refine Br.both ?_ ?_
    · repeat k_extra "m"
      refine c_told (i := 2) hK hr1 hh' (.inr hl) hcs (by (first | lia | omega)) ?_
      repeat k_extra "m"
      refine BinWP.fmod_int (by (first | lia | omega)) ?_
      have c0 : 0 ≤ (cs.getD 2 0).fmod (n : Int) := Int.fmod_nonneg_of_pos _ (by (first | lia | omega))
      have c1 : (cs.getD 2 0).fmod (n : Int) < (n : Int) := Int.fmod_lt_of_pos _ (by (first | lia | omega))
      generalize (cs.getD 2 0).fmod (n : Int) = k at c0 c1 ⊢
      obtain ⟨k, rfl⟩ := Int.eq_ofNat_of_zero_le c0
      have hk : k < n := by (first | lia | omega)
      refine ItemWP.list (y := .str (nameN n k)) (.inl q1) (by (first | lia | omega)) (by (first | lia | omega)) (by rw [Int.toNat_natCast, List.getElem?_map, kn5_get hk]; rfl) ?_
      repeat k_extra "m"
      refine CallWP.insert q0 b0 (by (first | lia | omega)) (by (first | lia | omega)) ?_
      have M9 := M8.set 0 (.list (vs.take pl.toNat ++ V.str (nameN n k) :: vs.drop pl.toNat)) rfl
      obtain ⟨z1, z2⟩ := NmOk.ofS (σ := σ8) (nameN_ok n k (by (first | lia | omega)))
      repeat k_extra "m"
      refine ⟨rfl, _, M9, N8.put z1 z2 q0, by rw [len_put]; (first | lia | omega), by k_extra "mget", by k_extra "mget", by k_extra "mget"⟩
    · repeat k_extra "m"
      exact ⟨rfl, vs, M8, N8, by (first | lia | omega), by k_extra "mget", by k_extra "mget", by k_extra "mget"⟩
  clear r1 r2 r3 r4 r5' r6 r7 N8 M8 v1 v2 b0 b1
  rintro ρ4 σ9 ⟨vs, M9, N9, v3, r1, r2, r3⟩
  have q0 := M9.get 0 rfl
  have q1 := M9.get 1 rfl
  repeat k_extra "m"
  refine c_due hK hr1 hh' (by (first | lia | omega)) q0 q1 (by (first | lia | omega)) (kn5_ok n40) N9.1 fun σ10 G10 => ?_
  have M10 := M9.grow G10
  have N10 := N9.grow G10
  clear M9 N9 q0 q1
  have q2 := M10.get 2 rfl
  have zt : (tv5 n als).length ≤ 40 := by rw [tv5, List.length_map, hs5_len]; (first | lia | omega)
  repeat k_extra "m"
  intro gl hgl
  have M11 := M10.new (.list (tv5 n als)) hgl
  have N11 := N10.grow (Grow.rfl'.fresh (o := .list (tv5 n als)) hgl)
  generalize Store.upd σ10 gl _ = σ11 at M11 N11 ⊢
  have q0 := M11.get 1 rfl
  repeat k_extra "m"
  intro tl htl
  have M12 := M11.new (.list vs) htl
  have N12 := N11.grow (Grow.rfl'.fresh (o := .list vs) htl)
  generalize Store.upd σ11 tl _ = σ12 at M12 N12 ⊢
  clear M10 M11 N10 N11 q0 q2
  have hal : ∀ {σ' : Store}, Grow σ12 σ' → ∀ x ∈ als, σ' x = some (.list [Deed.v .hush]) := fun g x hx => g _ _ (M12.at_ (x, .list [Deed.v .hush]) (by simp only [r5, dl5, List.mem_cons, List.mem_append, List.mem_map]; exact .inr (.inr (.inr (.inr (.inr (.inl ⟨x, hx, rfl⟩)))))))
  generalize hd : dueV (kn5 n n) [] vs = d
  repeat k_extra "m"
  by_cases h0 : d = 0
  · subst h0
    obtain ⟨ns, rfl, hsub, nd⟩ := due0 N12.1 List.nodup_nil hd
    rw [List.nil_append] at nd
    have hok : ∀ x ∈ ns, PyData.strOk x = true := fun x hx => kn5_ok n40 x (hsub x hx)
    rw [List.length_map] at v3
    refine Br.f (by decide +kernel) ?_
    repeat k_extra "m"
    have e1 : tv5 n als = ((hs5 n als).map fun p => (p.1.name, [V.int p.1.rank, .str p.1.hears, .bool p.1.once, p.2])).map fun t => V.tup (.str t.1 :: t.2) := by
      unfold tv5
      rw [List.map_map]; rfl
    have e2 : ((hs5 n als).map fun p => (p.1.name, [V.int p.1.rank, .str p.1.hears, .bool p.1.once, p.2])).map (·.1) = kn5 n n := by rw [List.map_map, ← hla, ← hs5_names, hla]; rfl
    refine c_needn hK hr1 hh' (by (first | lia | omega)) (by rw [← e1]; exact M12.get 1 rfl) (M12.get 0 rfl) (by rw [List.length_map, hs5_len]; (first | lia | omega)) (by (first | lia | omega)) nd (by rw [e2]; exact hsub) (by rw [e2]; exact kn5_ok n40) fun fo σ13 G13 hfo hfo2 => ?_
    have M13 := M12.grow G13
    repeat k_extra "m"
    have en : (hs5 n als).map (·.1.name) = kn5 n n := by rw [hs5_names, hla]
    have ec : (hs5 n als).map (·.1) = cast5 n := by rw [hs5_cast, hla]; rfl
    refine c_Loom hK hS (by (first | lia | omega)) hh' (by (first | lia | omega)) (hs5_told (n := n) (by (first | lia | omega)) (hal G13)) (.inl (M13.get 1 rfl)) (M13.get 0 rfl) (by (first | lia | omega)) nd (by rw [en]; exact hsub) (by rw [en]; exact kn5_ok n40) (rest := (nm, .list (ns.map V.str)) :: (kn, .list ((kn5 n n).map V.str)) :: ((tl, .list (ns.map V.str)) :: (gl, .list (tv5 n als)) :: (hl', .list (tv5 n als)) :: dl5 als)) ?_ fun a σ14 L14 G14 _ => ?_
    · refine M13.perm ((List.perm_append_singleton tabE _).symm.trans ?_)
      exact List.Perm.append_right ((hl', .list (tv5 n als)) :: (dl5 als ++ [tabE])) (List.perm_append_comm (l₁ := [(nm, O.list (ns.map V.str)), (kn, O.list ((kn5 n n).map V.str))]) (l₂ := [(tl, O.list (ns.map V.str)), (gl, O.list (tv5 n als))]))
    rw [ec] at L14
    have hfo14 := G14 _ _ hfo2
    have K := cast5_ok n40
    have q2 : σ14 nm = some (.list (ns.map V.str)) := L14.getR 0 rfl
    have q3 : σ14 tl = some (.list (ns.map V.str)) := L14.getR 2 rfl
    have q4 : σ14 gl = some (.list (tv5 n als)) := L14.getR 3 rfl
    have q5 : σ14 hl' = some (.list (tv5 n als)) := L14.getR 4 rfl
    repeat k_extra "m"
    refine ne_strs (by (first | lia | omega)) hfo14 q2 hok ?_
    repeat k_extra "m"
    refine ne_strs (by (first | lia | omega)) q3 q2 hok ?_
    repeat k_extra "m"
    refine ne_tv5 (by (first | lia | omega)) (by (first | lia | omega)) q4 q5 (hal (G13.trans G14)) ?_
    repeat k_extra "m"
    have L15 := L14.setR (r1 := [(nm, .list (ns.map V.str)), (kn, .list ((kn5 n n).map V.str))]) (x := tl) (.list (ns.map V.str ++ [.str (Str.ofString "more")]))
    dsimp only [List.cons_append, List.nil_append] at L15
    generalize Store.upd σ14 tl _ = σ15 at L15 ⊢
    have q5 : σ15 hl' = some (.list (tv5 n als)) := L15.getR 4 rfl
    refine ⟨_, _, ItV.list hh' (.inl q5), ?_⟩
    have etv : tv5 n als = als.zipIdx.map fun p => V.tup [.str (nameN n p.2), .int (5 - (p.2 : Int)), .str (Str.ofString ""), .bool false, .ref p.1] := by
      unfold tv5 hs5
      rw [List.map_map]; rfl
    generalize hR : ([(nm, .list (ns.map V.str)), (kn, .list ((kn5 n n).map V.str)), (tl, .list (ns.map V.str ++ [.str (Str.ofString "more")])), (gl, .list (tv5 n als)), (hl', .list (tv5 n als))] : List (Addr × O)) = R1
    have L15' : LAt σ15 a [] (cast5 n) (LS.new ns) (R1 ++ dl5 als) := by rw [← hR]; exact L15
    have hRg : ∀ {σ' : Store} {dl : List (Addr × O)}, LAt σ' a [] (cast5 n) (LS.new ns) (R1 ++ dl) → σ' hl' = some (.list (tv5 n als)) := fun {σ' dl} L => L.led.at_ (hl', .list (tv5 n als)) (by rw [← hR]; simp)
    rw [etv]
    refine ForL.inv (fun p : Addr × Nat => V.tup [.str (nameN n p.2), .int (5 - (p.2 : Int)), .str (Str.ofString ""), .bool false, .ref p.1]) (fun rest ρ σ => ∃ dl : List (Addr × O), dl.map (·.1) = als ∧ (∀ q ∈ dl, ∃ xs, q.2 = .list xs ∧ xs.length ≤ 1) ∧ (∀ p ∈ rest, p.1 ∈ als) ∧ LAt σ a [] (cast5 n) (LS.new ns) (R1 ++ dl) ∧ ρ.get "_law_loom" = some (.ref a.lo) ∧ ρ.get "_law_names" = some (.ref nm) ∧ ρ.get "_law_known" = some (.ref kn) ∧ ρ.get "_law_given" = some (.ref gl)) ?_ ?_ _ _ _ ⟨dl5 als, by simp [dl5, Function.comp_def], (fun q hq => by
      obtain ⟨x, hx, rfl⟩ := List.mem_map.mp hq
      exact ⟨_, rfl, Nat.le_refl 1⟩), fun p hp => List.fst_mem_of_mem_zipIdx hp, L15', by k_extra "mget", by k_extra "mget", by k_extra "mget", by k_extra "mget"⟩
    · rintro ⟨x, k⟩ rest ρ σ16 ⟨dl, d1, d2, d3, L16, r1, r2, r3, r4⟩
      have hx : x ∈ dl.map (·.1) := by rw [d1]; exact d3 _ (.head _)
      obtain ⟨⟨x', o⟩, hq, rfl⟩ := List.mem_map.mp hx
      obtain ⟨xs, e3, e4⟩ := d2 _ hq
      dsimp only at e3
      subst e3
      obtain ⟨s1, s2, rfl⟩ := List.append_of_mem hq
      have L16' : LAt σ16 a [] (cast5 n) (LS.new ns) ((R1 ++ s1) ++ (x', .list xs) :: s2) := by rw [List.append_assoc]; exact L16
      have qx : σ16 x' = some (.list xs) := L16'.led.at_ (x', .list xs) (by simp)
      have L17 := L16'.setR (.list [])
      rw [List.append_assoc] at L17
      dsimp only
      repeat k_extra "m"
      refine CallWP.clear qx (by rw [sizeLine_eq]; (first | lia | omega)) ?_
      generalize Store.upd σ16 x' _ = σ17 at L17 ⊢
      have q5 := hRg L17
      repeat k_extra "m"
      refine ⟨.inl (by rw [← etv]; exact q5), s1 ++ (x', .list []) :: s2, by rw [← d1]; simp, fun q hq => ?_, fun p hp => d3 p (.tail _ hp), L17, by k_extra "mget", by k_extra "mget", by k_extra "mget", by k_extra "mget"⟩
      rcases List.mem_append.mp hq with hq | hq
      · exact d2 q (List.mem_append_left _ hq)
      · rcases List.mem_cons.mp hq with rfl | hq
        · exact ⟨[], rfl, by simp⟩
        · exact d2 q (List.mem_append_right _ (.tail _ hq))
    rintro ρ σ16 ⟨dl, d1, d2, d3, L16, r1, r2, r3, r4⟩
    subst hR
    dsimp only [List.cons_append, List.nil_append] at L16
    have qg : σ16 gl = some (.list (tv5 n als)) := L16.getR 3 rfl
    repeat k_extra "m"
    refine CallWP.clear qg (by rw [sizeLine_eq]; (first | lia | omega)) ?_
    have L17 := L16.setR (r1 := [(nm, .list (ns.map V.str)), (kn, .list ((kn5 n n).map V.str)), (tl, .list (ns.map V.str ++ [.str (Str.ofString "more")]))]) (x := gl) (.list [])
    dsimp only [List.cons_append, List.nil_append] at L17
    generalize Store.upd σ16 gl _ = σ17 at L17 ⊢
    have hds : ∀ h ∈ cast5 n, h.ds.length ≤ 1000 := fun x hx => by
      obtain ⟨k, _, rfl⟩ := List.mem_map.mp hx
      rw [(hn5_rest n k).2.2.2]; simp
    repeat k_extra "m"
    refine c_fresh E (by (first | lia | omega)) hh' (by (first | lia | omega)) K hds (by (first | lia | omega)) (by rw [cast5_names]; exact hsub) L17 fun σ18 L18 => ?_
    repeat k_extra "m"
    refine c_goes E n40 (by (first | lia | omega)) hh' (by (first | lia | omega)) (by (first | lia | omega)) hsub L18 fun fs' s' σ19 L19 => ?_
    repeat k_extra "m"
    all_goals first | rfl | exact ⟨_, L19.led.get 0 rfl, _, _, rfl⟩ | exact ⟨rfl, _, L19.led.get 0 rfl, _, _, rfl⟩
  · have hne : (dueS d != Str.ofString "none") = true := by
      rcases dueV_le (kn5 n n) vs [] with e | e | e
      · exact absurd (hd.symm.trans e) h0
      · rw [← hd, e]; decide +kernel
      · rw [← hd, e]; decide +kernel
    refine Br.t hne ?_
    iterate 5 k_extra "m"
    refine Ev.callF ?kf ?_ (by kernel_rfl) (by kernel_rfl)
    case kf => rfl
    k_extra "mname"
    refine ⟨_, fun v hp r => by cases r; rfl, Kp.ref (by k_extra "mK"), ?_⟩
    repeat k_extra "m"
    refine f_ref5 hK hS hlo OS OT FB (n := n) (als := als) (by (first | lia | omega)) hh' (by (first | lia | omega)) a4 (by (first | lia | omega)) (hal Grow.rfl') (M12.get 1 rfl) (M12.get 0 rfl) (by (first | lia | omega)) N12.1 (by rw [hla]; exact hd) h0 fun σ13 G13 => ?_
    have N13 := N12.grow G13
    have M13 := M12.grow G13
    iterate 6 k_extra "m"
    refine Ev.callF ?kf2 ?_ (by kernel_rfl) (by kernel_rfl)
    case kf2 => rfl
    k_extra "mname"
    refine ⟨_, fun v hp r => by cases r; rfl, Kp.ref (by k_extra "mK"), ?_⟩
    repeat k_extra "m"
    refine f_ref5 hK hS hlo OS OT FB (n := n) (als := als) (by (first | lia | omega)) hh' (by (first | lia | omega)) a4 (by (first | lia | omega)) (hal G13) (M13.get 1 rfl) (M13.get 0 rfl) (by (first | lia | omega)) N13.1 (by rw [hla]; exact hd) h0 fun σ14 G14 => ?_
    have M14 := M13.grow G14
    repeat k_extra "m"
    refine CmpWP.eqSelf (M14.get 0 rfl) (M14.get 2 rfl) (fun x hx => (N13.2 x hx).eqi (by (first | lia | omega))) (by (first | lia | omega)) ?_
    have ht : σ14 133 = some (.tab ⟨82, 29, 82, 58⟩ lamQ) := M14.at_ tabE (by simp [r5])
    repeat k_extra "m"
    all_goals first | rfl | exact ⟨_, ht, _, _, rfl⟩ | exact ⟨rfl, _, ht, _, _, rfl⟩

end Mine
theorem PySem.Challenge.cw_uf030038_05_holds : PySem.Challenge.rw_uf030038_05.Holds := by
  refine Mine.hd ?_
  intro w s₀ s₁ mg mb G Y fa o pm cd doc dV kV ho hd hcd hD hmg hg args vals as hpre hlay hrd hwl hlo
  have KX := km_in_of Y
  have hP := km_tabs_of Y 133 (by simp)
  have hC : CodeHd s₁.heap 135 133 := codeHd_of_K KX (by kernel_rfl)
  refine Ground.open G ?_
  intro T B D TE TW
  clear ho hd hcd hD
  wrow_args hpre hlay hrd hwl hlo
  rename IntsAre _ _ => hI
  rename s₁.heap.IsList _ _ => hL
  rename ¬ _ < _ => hn
  have hfa : fa = 376 := by
    have e := mg_of (n := Str.ofString "law") (v := .ref 376) KX T.g (by k_is)
    have hn : Mine.dL.name = Str.ofString "law" := by kernel_rfl
    rw [hn] at hmg
    rw [hmg] at e
    cases e; rfl
  subst hfa
  have own : ∀ (x : String) (N' : Addr), specOf Mine.qL (Str.ofString x) = some ("ValueError.__new__", [.type "ValueError", .type "Exception", .type "BaseException", .type "object"]) → mg (Str.ofString x) = some (.ref N') → OwnCls (Str.ofString x) N' [.type "ValueError", .type "Exception", .type "BaseException", .type "object"] "ValueError.__new__" mg s₁.heap := by
    intro x N' hs e
    obtain ⟨N, OQ, _⟩ := T.ownAt hs
    have hN : N = N' := by
      rw [OQ.bound] at e
      cases e; rfl
    subst hN
    exact OQ.own
  have OS := own "Stranger" 73 (by kernel_rfl) (mg_of KX T.g (by k_is))
  have OT := own "Twice" 61 (by kernel_rfl) (mg_of KX T.g (by k_is))
  have hsys : ∃ o, s₁.heap.get? sysModules = some o := by
    obtain ⟨mm, ⟨o, es, ep, e, _⟩, _⟩ := (T.seer (by kernel_rfl)).mods
    exact ⟨o, e⟩
  refine wpAny_mono (Mine.glueTX (pos := ⟨82, 29, 82, 58⟩) (q := Str.ofString "hearers" ++ Str.ofString ".<locals>." ++ Str.ofString "<lambda>") KX T hC hP (by kernel_rfl) (by decide) hsys hg hL hI ?_) ?_ fun _ _ z => z.elim
  · intro C e1 e2 e3 e4 eo e5 e6 e7 e8
    subst e2
    exact Mine.c_law e3 e5 e8 e7 e4 (eo _ _ _ _ OS) (eo _ _ _ _ OT) F.excBase_ValueError e6 (by (first | lia | omega))
  · rintro v s' ⟨rfl, k1, k2, k3⟩
    exact ⟨.inl ⟨_, .bool true, [], rfl, fun _ => rfl, .bool true, postW_of (X := true == true) (by rfl) (w_eq_bool (w_res rfl) w_lit) rfl, fun _ => ⟨List.nodup_nil, fun a ha => by cases ha⟩⟩, k1, k2, k3⟩

