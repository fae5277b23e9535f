import PyProof.Rows.All
import Wide.All
import OpenK.AllK
import Wide.FinOn
import OpenK.KWalk
import PyProof.Cells
import PyProof.CompFree
import PyProof.CompUse
import PyProof.DictCalls
import PyProof.PlainList
import PyProof.Rules3
import PyProof.ListIndex
import PyProof.Rows.Frame
import PyProof.RangeFor
import PyProof.Rules2
import PyProof.PureInt
import PyProof.NoPylong
import PyProof.Rows.RuleB_floordiv
import PyProof.Rows.RuleB_mod
import PyProof.Rows.StrRules
import PyProof.Rows.Chain
import PyProof.Raises
import PyProof.RulesAssignMore
import PyProof.RulesMatch
import PyProof.TupleIter
import PyProof.LetGo
import PyProof.AssignAttr
import OpenK.KMore
import PyProof.CallRoads
import PyProof.CompMap
import PyProof.Walks
import PyProof.RangeIter
import PyProof.P3In
import PyProof.ListTruth
import PyProof.ListIndexNeg
import PyProof.SliceList
import PyProof.FactsAll.list_3
import PyProof.FactsAll.list_4
import PyProof.Rows.Tup
import PyProof.SeqWrite
import PyProof.ReprLoop
import PyProof.IsiPairs
import PyProof.IsiHeapPairs
import PyProof.IsiNone
import PyProof.ListCopy
import PyProof.TupleOfSeq
import PyProof.TupleCall
import PyProof.StrCalls2
import PyProof.ConsumeWalk
import PyProof.Rows.RuleN_abs
import PyProof.Rows.SeqMore
import PyProof.CallStr
import PyProof.StrBlock2
import PyProof.DictDisplay
import PyProof.DictTruth
import OpenK.KLine
import PyProof.DictTable
import PyProof.MeetsSeq
import KE.LcSums
import PyProof.P3Eq
import PyProof.Rows.TupAssign
import KE.KSortTup
import OpenK.KMake
import PyProof.TupleKey
import PyProof.FactsAll.tuple_1
import PyProof.FactsAll.tuple_2
import PyProof.FactsAll.dict_3
import PyProof.MeetsDictList
import PyProof.MinMaxWalk
import KE.KLam
import KE.KNestM
import KE.KSortKey
import PyProof.DefCall
import PyProof.Rows.CallKw2
import PyProof.SliceStr2
import PyProof.StrBlockI
import PyProof.Rows.TopCatch
import PyProof.ExcBaseAll.ValueError
import KE.KTryMore
import KE.KIsAll
import PyProof.ExcAttrAll.ValueError
import PyProof.StrWalks
import PyProof.StrBlock
import PyProof.EqAt
import PyProof.WalksEnum
import PyProof.EnumMake
import PyProof.IsInstanceT
import PyProof.IsiTupleAll
import PyProof.WalkInts
import PyProof.Rows.RuleIs
import PyProof.AutoSeq1
import PyProof.Rows.MinMaxN
import PyProof.EqKinds
import PyProof.FactsAll.dict_1
import PyProof.IsiTupleOf
import PyProof.Rows.TupAdd
import PyProof.Rows.TupMore
import PyProof.NeKinds
import Open.FastRun
import Open.FastT9
import Open.Line
import PySem.Challenge.RW_uf030038_04
set_option autoImplicit false
namespace Mine
open PySem PySem.W

/-- abstract values -/
inductive V where
  | none | bool (b : Bool) | int (i : Int) | str (s : Str) | tup (vs : List V) | rng (a b : Int) | ref (a : Addr) | typ (n : String) | blt (i : String)
  deriving Inhabited

abbrev tupObj (items : Array Value) (n : Nat) : Obj := { cls := .type "tuple", data := .seq items n }

mutual
inductive VR (h : Heap) : Value → V → Prop where
  | none : VR h .none .none
  | bool (b : Bool) : VR h (.bool b) (.bool b)
  | int (i : Int) (t : Tok) : VR h (.int i t) (.int i)
  | str (s : Str) (t : Tok) : VR h (.str s t) (.str s)
  | typ (n : String) : VR h (.type n) (.typ n)
  | blt (i : String) : VR h (.builtin i) (.blt i)
  | ref (a : Addr) : VR h (.ref a) (.ref a)
  | tup {a : Addr} {items : Array Value} {n : Nat} {vs : List V} : h.get? a = some (tupObj items n) → VRs h items.toList vs → VR h (.ref a) (.tup vs)
  | rng {r : Addr} {a b : Int} {t u v : Tok} : IsRange h r a b 1 t u v → VR h (.ref r) (.rng a b)
inductive VRs (h : Heap) : List Value → List V → Prop where
  | nil : VRs h [] []
  | cons {v : Value} {vs : List Value} {x : V} {xs : List V} : VR h v x → VRs h vs xs → VRs h (v :: vs) (x :: xs)
end

/-- objects that nothing changes -/
def Imm (o : Obj) : Prop := (∃ items n, o = tupObj items n) ∨ (∃ vs, o = { cls := .type "range", data := .fields vs }) ∨ (o.cls = .type "code" ∧ ∃ vs, o.data = .fields vs)
theorem Imm.tup (items : Array Value) (n : Nat) : Imm (tupObj items n) := .inl ⟨_, _, rfl⟩
theorem Imm.not {o : Obj} (h1 : o.cls ≠ .type "tuple") (h2 : o.cls ≠ .type "range") (h3 : o.cls ≠ .type "code") : ¬ Imm o := by
  rintro (⟨_, _, rfl⟩ | ⟨_, rfl⟩ | ⟨e, _⟩)
  · exact h1 rfl
  · exact h2 rfl
  · exact h3 e
theorem Imm.notDict {o : Obj} {es : Array DictEntry} {n : Nat} (h : o.data = .dict es n) : ¬ Imm o := by
  rintro (⟨_, _, rfl⟩ | ⟨_, rfl⟩ | ⟨_, _, e⟩)
  · cases h
  · cases h
  · rw [h] at e; cases e
theorem Imm.notCell {o : Obj} {v : Option Value} (h : o.data = .cell v) : ¬ Imm o := by
  rintro (⟨_, _, rfl⟩ | ⟨_, rfl⟩ | ⟨_, _, e⟩)
  · cases h
  · cases h
  · rw [h] at e; cases e
/-- every such object of h stands in h' -/
def TupKeep (h h' : Heap) : Prop := ∀ a o, Imm o → h.get? a = some o → h'.get? a = some o

theorem TupKeep.refl (h : Heap) : TupKeep h h := fun _ _ _ e => e
theorem TupKeep.trans {h1 h2 h3 : Heap} (x : TupKeep h1 h2) (y : TupKeep h2 h3) : TupKeep h1 h3 := fun a i n e => y a i n (x a i n e)

mutual
theorem VR.mono {h h' : Heap} (k : TupKeep h h') {v : Value} {x : V} (r : VR h v x) : VR h' v x := by
  cases r with
  | none => exact .none
  | bool b => exact .bool b
  | int i t => exact .int i t
  | str s t => exact .str s t
  | typ n => exact .typ n
  | blt i => exact .blt i
  | ref a => exact .ref a
  | tup e r => exact .tup (k _ _ (.tup _ _) e) (VRs.mono k r)
  | rng e => exact .rng (k _ _ (.inr (.inl ⟨_, rfl⟩)) e)
theorem VRs.mono {h h' : Heap} (k : TupKeep h h') {v : List Value} {x : List V} (r : VRs h v x) : VRs h' v x := by
  cases r with
  | nil => exact .nil
  | cons a b => exact .cons (VR.mono k a) (VRs.mono k b)
end

theorem VR.intI {h : Heap} {v : Value} {i : Int} (r : VR h v (.int i)) : ∃ t, v = .int i t := by cases r; exact ⟨_, rfl⟩
theorem VR.strI {h : Heap} {v : Value} {x : Str} (r : VR h v (.str x)) : ∃ t, v = .str x t := by cases r; exact ⟨_, rfl⟩
theorem VR.boolI {h : Heap} {v : Value} {b : Bool} (r : VR h v (.bool b)) : v = .bool b := by cases r; rfl
theorem VR.noneI {h : Heap} {v : Value} (r : VR h v .none) : v = .none := by cases r; rfl
theorem VR.refI {h : Heap} {v : Value} {a : Addr} (r : VR h v (.ref a)) : v = .ref a := by cases r; rfl
theorem VR.typI {h : Heap} {v : Value} {n : String} (r : VR h v (.typ n)) : v = .type n := by cases r; rfl
theorem VR.bltI {h : Heap} {v : Value} {n : String} (r : VR h v (.blt n)) : v = .builtin n := by cases r; rfl
theorem VR.tupI {h : Heap} {v : Value} {xs : List V} (r : VR h v (.tup xs)) : ∃ (a : Addr) (items : Array Value) (n : Nat), v = .ref a ∧ h.get? a = some (tupObj items n) ∧ VRs h items.toList xs := by cases r with | tup e r => exact ⟨_, _, _, rfl, e, r⟩
theorem VRs.nilI {h : Heap} {vs : List Value} (r : VRs h vs []) : vs = [] := by cases r; rfl
theorem VRs.consI {h : Heap} {vs : List Value} {x : V} {xs : List V} (r : VRs h vs (x :: xs)) : ∃ u us, vs = u :: us ∧ VR h u x ∧ VRs h us xs := by cases r with | cons a b => exact ⟨_, _, rfl, a, b⟩
theorem VRs.one {h : Heap} {vs : List Value} {x : V} (r : VRs h vs [x]) : ∃ u, vs = [u] ∧ VR h u x := by
  obtain ⟨u, us, rfl, r1, r2⟩ := r.consI
  obtain rfl := r2.nilI
  exact ⟨u, rfl, r1⟩
theorem VRs.two {h : Heap} {vs : List Value} {x y : V} (r : VRs h vs [x, y]) : ∃ u v, vs = [u, v] ∧ VR h u x ∧ VR h v y := by
  obtain ⟨u, us, rfl, r1, r2⟩ := r.consI
  obtain ⟨v, rfl, r3⟩ := r2.one
  exact ⟨u, v, rfl, r1, r3⟩
theorem VRs.three {h : Heap} {vs : List Value} {x y z : V} (r : VRs h vs [x, y, z]) : ∃ u v w, vs = [u, v, w] ∧ VR h u x ∧ VR h v y ∧ VR h w z := by
  obtain ⟨u, us, rfl, r1, r2⟩ := r.consI
  obtain ⟨v, w, rfl, r3, r4⟩ := r2.two
  exact ⟨u, v, w, rfl, r1, r3, r4⟩
theorem VRs.ind {h : Heap} {P : List Value → List V → Prop} (n : P [] []) (c : ∀ {v vs x xs}, VR h v x → VRs h vs xs → P vs xs → P (v :: vs) (x :: xs)) : ∀ {xs : List V} {vs : List Value}, VRs h vs xs → P vs xs := by
  intro xs
  induction xs with
  | nil => intro vs r; obtain rfl := r.nilI; exact n
  | cons x xs ih =>
    intro vs r
    obtain ⟨u, us, rfl, a, b⟩ := r.consI
    exact c a b (ih b)
theorem VRs.length {h : Heap} {v : List Value} {x : List V} (r : VRs h v x) : v.length = x.length := r.ind (P := fun v x => v.length = x.length) rfl fun _ _ ih => congrArg (· + 1) ih

theorem VRs.append {h : Heap} {v : List Value} {x : List V} {v' : List Value} {x' : List V} (r : VRs h v x) (r' : VRs h v' x') : VRs h (v ++ v') (x ++ x') :=
  r.ind (P := fun v x => VRs h (v ++ v') (x ++ x')) r' fun a _ ih => .cons a ih

theorem VRs.get {h : Heap} {v : List Value} {x : List V} (r : VRs h v x) : ∀ {i : Nat} {y : V}, x[i]? = some y → ∃ u, v[i]? = some u ∧ VR h u y := by
  refine r.ind (P := fun v x => ∀ {i : Nat} {y : V}, x[i]? = some y → ∃ u, v[i]? = some u ∧ VR h u y) (fun e => nomatch e) fun a _ ih => ?_
  intro i y e
  cases i with
  | zero => cases e; exact ⟨_, rfl, a⟩
  | succ i => exact ih e

theorem VRs.take {h : Heap} {v : List Value} {x : List V} (r : VRs h v x) : ∀ n : Nat, VRs h (v.take n) (x.take n) := by
  refine r.ind (P := fun v x => ∀ n : Nat, VRs h (v.take n) (x.take n)) (fun n => by rw [List.take_nil, List.take_nil]; exact .nil) fun a _ ih n => ?_
  cases n with
  | zero => exact .nil
  | succ n => exact .cons a (ih n)
/-- the run's surroundings -/
structure Cx where
  prog : Program
  w : World
  h₀ : Heap
  gens : Array GenState
  os : OsState
  n₀ : Nat
  low : ∀ b o, h₀.get? b = some o → b < n₀
  top : ∀ m, n₀ = m + 1 → ∃ o, h₀.get? m = some o
  K : Frag
  KX : K.In h₀
  mg : Str → Option Value
  mb : Str → Option Value
  hg : h₀.Ns mainGlobals mg
  hb : h₀.Ns builtinsNs mb
  blt : ∀ x : Str, x ≠ "__name__" → mb x = bootBuiltins x
  lim : h₀.NoLimit
  tabs : List Addr
  /-- nothing is said of where new objects lie -/
  loose : Prop
abbrev Cx.M (C : Cx) : Model := model C.prog C.w

/-- abstract objects -/
inductive O where
  | list (vs : List V)
  | sd (es : List (Str × V))
  | id (es : List (Int × V))
  | inst (cls dx : Addr)
  | tab (pos : Pos) (q : Str)
  | exc (cls : Addr)

abbrev Store := Addr → Option O
def Store.upd (σ : Store) (a : Addr) (o : O) : Store := fun b => if b = a then some o else σ b
theorem Store.upd_self (σ : Store) (a : Addr) (o : O) : σ.upd a o a = some o := by simp [Store.upd]
theorem Store.upd_ne (σ : Store) {a b : Addr} (o : O) (h : b ≠ a) : σ.upd a o b = σ b := by simp [Store.upd, h]

inductive PR {K : Type} (h : Heap) : List (K × Value) → List (K × V) → Prop
  | nil : PR h [] []
  | cons {k : K} {v : Value} {x : V} {r : List (K × Value)} {r' : List (K × V)} : VR h v x → PR h r r' → PR h ((k, v) :: r) ((k, x) :: r')

theorem PR.mono {K : Type} {h h' : Heap} (k : TupKeep h h') {a : List (K × Value)} {b : List (K × V)} (z : PR h a b) : PR h' a b := by
  induction z with
  | nil => exact .nil
  | cons x _ ih => exact .cons (x.mono k) ih

abbrev instO (C dx : Addr) : Obj := { cls := .ref C, dict := some dx }

def Rep (C : Cx) (h : Heap) (a : Addr) : O → Prop
  | .list vs => ∃ items, h.PlainList a items ∧ VRs h items.toList vs
  | .sd es => ∃ kvs, h.DictOf (strKind C.prog C.w) a kvs ∧ PR h kvs es
  | .id es => ∃ kvs, h.DictOf (intKind C.prog C.w) a kvs ∧ PR h kvs es
  | .inst c dx => h.get? a = some (instO c dx)
  | .tab pos q => h.get? a = some { cls := .none, data := .fields #[] } ∨ ∃ c' o vs t, h.get? a = some { cls := .none, data := .fields #[rawInt pos.line, rawInt pos.col, .ref c'] } ∧ h.get? c' = some o ∧ o.cls = .type "code" ∧ o.data = .fields vs ∧ vs[1]? = some (.str q t)
  | .exc c => ∃ o vs, h.get? a = some o ∧ o.cls = .ref c ∧ o.data = .fields vs

theorem Rep.isSome {C : Cx} {h : Heap} {a : Addr} {o : O} (r : Rep C h a o) : ∃ x, h.get? a = some x ∧ ¬ Imm x := by
  cases o with
  | list vs => obtain ⟨items, ⟨n, e⟩, _⟩ := r; exact ⟨_, e, Imm.not (by simp) (by simp) (by simp)⟩
  | sd es =>
    obtain ⟨kvs, d, _⟩ := r
    obtain ⟨o, es, ep, ho, hx, _⟩ := d
    exact ⟨o, ho, Imm.not (by rw [hx.1]; decide) (by rw [hx.1]; decide) (by rw [hx.1]; decide)⟩
  | id es =>
    obtain ⟨kvs, d, _⟩ := r
    obtain ⟨o, es, ep, ho, hx, _⟩ := d
    exact ⟨o, ho, Imm.not (by rw [hx.1]; decide) (by rw [hx.1]; decide) (by rw [hx.1]; decide)⟩
  | inst c dx => exact ⟨_, r, Imm.not (fun z => by cases z) (fun z => by cases z) (fun z => by cases z)⟩
  | tab pos q =>
    rcases r with e | ⟨c', o, vs, t, e, _⟩
    · exact ⟨_, e, Imm.not (fun z => by cases z) (fun z => by cases z) (fun z => by cases z)⟩
    · exact ⟨_, e, Imm.not (fun z => by cases z) (fun z => by cases z) (fun z => by cases z)⟩
  | exc c =>
    obtain ⟨o, vs, e, hc, _⟩ := r
    exact ⟨o, e, Imm.not (fun z => by rw [hc] at z; cases z) (fun z => by rw [hc] at z; cases z) (fun z => by rw [hc] at z; cases z)⟩

/-- a represented object stands as it stood where it is kept itself and all tuples are -/
theorem Rep.at {C : Cx} {h h' : Heap} {a : Addr} {o : O} (r : Rep C h a o) (k : ∀ x, h.get? a = some x → h'.get? a = some x) (t : TupKeep h h') : Rep C h' a o := by
  cases o with
  | list vs => obtain ⟨items, p, q⟩ := r; exact ⟨items, p.at k, q.mono t⟩
  | sd es =>
    obtain ⟨kvs, d, q⟩ := r
    obtain ⟨o, es', ep, ho, rest⟩ := d
    exact ⟨kvs, ⟨o, es', ep, k _ ho, rest⟩, q.mono t⟩
  | id es =>
    obtain ⟨kvs, d, q⟩ := r
    obtain ⟨o, es', ep, ho, rest⟩ := d
    exact ⟨kvs, ⟨o, es', ep, k _ ho, rest⟩, q.mono t⟩
  | inst c dx => exact k _ r
  | tab pos q =>
    rcases r with e | ⟨c', o, vs, u, e, e2, h1, h2, h3⟩
    · exact .inl (k _ e)
    · exact .inr ⟨c', o, vs, u, k _ e, t _ _ (.inr (.inr ⟨h1, vs, h2⟩)) e2, h1, h2, h3⟩
  | exc c =>
    obtain ⟨o, vs, e, r⟩ := r
    exact ⟨o, vs, k _ e, r⟩

structure St (C : Cx) (σ : Store) (s : Shared) : Prop where
  base : ∀ b o, C.h₀.get? b = some o → s.heap.get? b = some o
  rep : ∀ a o, σ a = some o → Rep C s.heap a o
  above : ∀ a o, σ a = some o → C.h₀.get? a = none ∧ (C.n₀ ≤ a ∨ a ∈ C.tabs ∨ C.loose)
  gens : s.gens = C.gens
  os : s.os = C.os

theorem St.size {C : Cx} {σ : Store} {s : Shared} (S : St C σ s) : C.n₀ ≤ s.heap.objs.size := by
  cases q : C.n₀ with
  | zero => exact Nat.zero_le _
  | succ m =>
    obtain ⟨o, e⟩ := C.top m q
    exact Heap.lt_size (S.base m o e)

/-- an object stands as it stood; a dict (so: a frame) may have other slots -/
def Kept (h' : Heap) (b : Addr) (o : Obj) : Prop := h'.get? b = some o ∨ ((∃ es n, o.data = .dict es n) ∧ ∃ sl, h'.get? b = some { o with slots := sl })
theorem Kept.got {h' : Heap} {b : Addr} {o : Obj} (x : Kept h' b o) : ∃ o', h'.get? b = some o' := by
  rcases x with x | ⟨_, _, x⟩ <;> exact ⟨_, x⟩
theorem Kept.trans {h1 h2 : Heap} {b : Addr} {o : Obj} (x : Kept h1 b o) (k : ∀ o', h1.get? b = some o' → Kept h2 b o') : Kept h2 b o := by
  rcases x with x | ⟨⟨es, n, d⟩, sl, x⟩
  · exact k _ x
  · rcases k _ x with y | ⟨_, sl', y⟩
    · exact .inr ⟨⟨es, n, d⟩, sl, y⟩
    · exact .inr ⟨⟨es, n, d⟩, sl', y⟩
theorem Kept.exact {h' : Heap} {b : Addr} {o : Obj} (x : Kept h' b o) (hn : ∀ es n, o.data ≠ .dict es n) : h'.get? b = some o := by
  rcases x with x | ⟨⟨es, n, d⟩, _⟩
  · exact x
  · exact absurd d (hn es n)
theorem Kept.same {h' : Heap} {b : Addr} {o : Obj} (x : Kept h' b o) : ∃ o', h'.get? b = some o' ∧ o'.data = o.data := by
  rcases x with x | ⟨_, _, x⟩
  · exact ⟨_, x, rfl⟩
  · exact ⟨_, x, rfl⟩
structure Evo (σ : Store) (h : Heap) (σ' : Store) (h' : Heap) : Prop where
  keep : ∀ b o, h.get? b = some o → σ b = none → Kept h' b o
  dom : ∀ b o, σ' b = some o → (∃ o', σ b = some o') ∨ h.get? b = none
  mono : ∀ b o, σ b = some o → ∃ o', σ' b = some o'
  tup : TupKeep h h'

theorem Evo.refl (σ : Store) (h : Heap) : Evo σ h σ h := ⟨fun _ _ e _ => .inl e, fun _ _ e => .inl ⟨_, e⟩, fun _ _ e => ⟨_, e⟩, .refl _⟩
theorem Evo.trans {σ1 σ2 σ3 : Store} {h1 h2 h3 : Heap} (x : Evo σ1 h1 σ2 h2) (y : Evo σ2 h2 σ3 h3) : Evo σ1 h1 σ3 h3 := by
  refine ⟨fun b o e n => ?_, fun b o e => ?_, fun b o e => ?_, x.tup.trans y.tup⟩
  · refine (x.keep b o e n).trans fun o' e' => y.keep b o' e' ?_
    cases q : σ2 b with
    | none => rfl
    | some o2 =>
      rcases x.dom b o2 q with ⟨o', e'⟩ | e'
      · rw [n] at e'; cases e'
      · rw [e] at e'; cases e'
  · rcases y.dom b o e with ⟨o', e'⟩ | e'
    · exact x.dom b o' e'
    · cases q : h1.get? b with
      | none => exact .inr rfl
      | some o1 =>
        left
        cases q' : σ1 b with
        | some o' => exact ⟨o', rfl⟩
        | none =>
          obtain ⟨o', z⟩ := (x.keep b o1 q q').got
          rw [z] at e'; cases e'
  · obtain ⟨o', e'⟩ := x.mono b o e
    exact y.mono b o' e'

/-- raw raised values and states -/
abbrev XP := Value → Shared → Prop

/-- what a tree of values gives -/
inductive EP (C : Cx) (σ : Store) (h : Heap) (Q : V → Store → Prop) (v : Value) (s' : Shared) : Prop
  | mk (x : V) (σ' : Store) (q : Q x σ') (r : VR s'.heap v x) (S : St C σ' s') (e : Evo σ h σ' s'.heap) : EP C σ h Q v s'
/-- a test's end -/
inductive TP (C : Cx) (σ : Store) (h : Heap) (Q : Bool → Store → Prop) (b : Bool) (s' : Shared) : Prop
  | mk (σ' : Store) (q : Q b σ') (S : St C σ' s') (e : Evo σ h σ' s'.heap) : TP C σ h Q b s'

theorem EP.after {C : Cx} {σ σ1 : Store} {h h1 : Heap} {Q : V → Store → Prop} {v : Value} {s' : Shared} (x : EP C σ1 h1 Q v s') (k : Evo σ h σ1 h1) : EP C σ h Q v s' :=
  let ⟨a, b, c, d, e, f⟩ := x; ⟨a, b, c, d, e, k.trans f⟩

/-- names to values -/
abbrev Rho := List (Str × V)
def Rho.get : Rho → Str → Option V
  | [], _ => none
  | (y, v) :: r, x => if x = y then some v else Rho.get r x
def Rho.put : Rho → Str → V → Rho
  | [], x, v => [(x, v)]
  | (y, u) :: r, x, v => if x = y then (x, v) :: r else (y, u) :: Rho.put r x v
theorem Rho.get_hit {x : Str} {v : V} {r : Rho} : Rho.get ((x, v) :: r) x = some v := by simp [Rho.get]
theorem Rho.get_miss {x y : Str} {u : V} {v : Option V} {r : Rho} (h : x ≠ y) (k : Rho.get r x = v) : Rho.get ((y, u) :: r) x = v := by simp [Rho.get, h, k]
theorem Rho.put_nil {x : Str} {v : V} : Rho.put [] x v = [(x, v)] := rfl
theorem Rho.put_hit {x : Str} {u v : V} {r : Rho} : Rho.put ((x, u) :: r) x v = (x, v) :: r := by simp [Rho.put]
theorem Rho.put_miss {x y : Str} {u v : V} {r r' : Rho} (h : x ≠ y) (k : Rho.put r x v = r') : Rho.put ((y, u) :: r) x v = (y, u) :: r' := by simp [Rho.put, h, k]
theorem Rho.get_put (x : Str) (v : V) : ∀ (r : Rho) (y : Str), Rho.get (Rho.put r x v) y = if y = x then some v else Rho.get r y
  | [], y => by simp [Rho.put, Rho.get]
  | (z, u) :: r, y => by
    have ih := Rho.get_put x v r y
    by_cases h : x = z
    · subst h
      simp only [Rho.put, if_true, Rho.get]
      by_cases h2 : y = x <;> simp [h2]
    · simp only [Rho.put, h, if_false, Rho.get]
      by_cases h2 : y = z
      · subst h2; simp [Ne.symm h]
      · simp [h2, ih]

/-- the frame -/
structure Fm (C : Cx) (σ : Store) (h : Heap) (env : Env) (ρ : Rho) : Prop where
  fn : env.scope.kind = .function
  loc : ∃ m, h.Ns env.locals m ∧ ∀ x v, env.kindOf x = some .local → ρ.get x = some v → ∃ u, m x = some u ∧ VR h u v
  locs : σ env.locals = none
  abv : C.n₀ ≤ env.locals
  cell : ∀ x c, env.cells.lookup x = some c → ∃ ov, h.IsCell c ov ∧ (∀ v, ρ.get x = some v → ∃ u, ov = some u ∧ VR h u v) 
  ncell : ∀ x c, env.cells.lookup x = some c → σ c = none ∧ c ≠ env.locals ∧ C.n₀ ≤ c
  apart : ∀ x y c, env.cells.lookup x = some c → env.cells.lookup y = some c → x = y

theorem isCell_at {h h' : Heap} {c : Addr} {v : Option Value} (x : h.IsCell c v) (k : ∀ o, h.get? c = some o → h'.get? c = some o) : h'.IsCell c v := by
  unfold Heap.IsCell at *
  obtain ⟨o, e, r⟩ := x
  exact ⟨o, k _ e, r⟩
theorem isCell_kept {h h' : Heap} {c : Addr} {v : Option Value} (x : h.IsCell c v) (k : ∀ o, h.get? c = some o → Kept h' c o) : h'.IsCell c v := by
  unfold Heap.IsCell at *
  obtain ⟨o, e, r⟩ := x
  obtain ⟨o', e', d⟩ := (k _ e).same
  exact ⟨o', e', d.trans r⟩
theorem ns_kept {h h' : Heap} {L : Addr} {m : Str → Option Value} (x : h.Ns L m) (k : ∀ o, h.get? L = some o → Kept h' L o) : h'.Ns L m := by
  obtain ⟨o, es, ep, ho, hd, rest⟩ := x
  obtain ⟨o', e', d⟩ := (k _ ho).same
  exact ⟨o', es, ep, e', d.trans hd, rest⟩

theorem Fm.evo {C : Cx} {σ σ' : Store} {h h' : Heap} {env : Env} {ρ : Rho} (F : Fm C σ h env ρ) (k : Evo σ h σ' h') : Fm C σ' h' env ρ := by
  obtain ⟨f1, ⟨m, hm, f2⟩, f3, f5, f6, f7, f8⟩ := F
  have hm' := ns_kept hm fun o e => k.keep _ _ e f3
  obtain ⟨o, es, ep, ho, rest⟩ := hm
  have nd : ∀ b o, h.get? b = some o → σ b = none → σ' b = none := fun b o e n => by
    cases q : σ' b with
    | none => rfl
    | some o2 =>
      rcases k.dom b o2 q with ⟨o', e'⟩ | e'
      · rw [n] at e'; cases e'
      · rw [e] at e'; cases e'
  refine ⟨f1, ⟨m, hm', fun x v hx hv => ?_⟩, nd _ _ ho f3, f5, fun x c hc => ?_, fun x c hc => ?_, f8⟩
  · obtain ⟨u, a, b⟩ := f2 x v hx hv
    exact ⟨u, a, b.mono k.tup⟩
  · obtain ⟨ov, a, b⟩ := f6 x c hc
    obtain ⟨n1, _, _⟩ := f7 x c hc
    refine ⟨ov, isCell_kept a fun o e => k.keep _ _ e n1, fun v hv => ?_⟩
    obtain ⟨u, p, q⟩ := b v hv
    exact ⟨u, p, q.mono k.tup⟩
  · obtain ⟨n1, n2, n3⟩ := f7 x c hc
    obtain ⟨ov, a, b⟩ := f6 x c hc
    have a' := a
    unfold Heap.IsCell at a'
    obtain ⟨o, e, _⟩ := a'
    exact ⟨nd _ _ e n1, n2, n3⟩

/-- an expression's evaluation -/
def Ev (C : Cx) (A : Around) (env : Env) (e : Expr) (ρ : Rho) (σ : Store) (Q : V → Store → Prop) (X : XP) : Prop :=
  ∀ s, St C σ s → Fm C σ s.heap env ρ → wpAny C.M A (eval e env) (EP C σ s.heap Q) X s

/-- a test -/
def Tst (C : Cx) (A : Around) (env : Env) (e : Expr) (ρ : Rho) (σ : Store) (Q : Bool → Store → Prop) (X : XP) : Prop :=
  ∀ s, St C σ s → Fm C σ s.heap env ρ → wpAny C.M A (isTrue e env (eval e env)) (TP C σ s.heap Q) X s

def BinWP (C : Cx) (A : Around) (op : Operator) (x y : V) (σ : Store) (Q : V → Store → Prop) (X : XP) : Prop :=
  ∀ s a b, St C σ s → VR s.heap a x → VR s.heap b y → wpAny C.M A (binaryOp op a b) (EP C σ s.heap Q) X s
def CmpWP (C : Cx) (A : Around) (op : CmpOp) (x y : V) (σ : Store) (Q : V → Store → Prop) (X : XP) : Prop :=
  ∀ s a b, St C σ s → VR s.heap a x → VR s.heap b y → wpAny C.M A (compareOp op a b) (EP C σ s.heap Q) X s
def UnWP (C : Cx) (A : Around) (op : UnaryOp) (x : V) (σ : Store) (Q : V → Store → Prop) (X : XP) : Prop :=
  ∀ s a, St C σ s → VR s.heap a x → wpAny C.M A (unaryOp op a) (EP C σ s.heap Q) X s
def TruWP (C : Cx) (A : Around) (x : V) (σ : Store) (Q : Bool → Store → Prop) (X : XP) : Prop :=
  ∀ s a, St C σ s → VR s.heap a x → wpAny C.M A (truthy a) (TP C σ s.heap Q) X s

section
variable {C : Cx} {A : Around} {env : Env} {ρ : Rho} {σ : Store} {X : XP}

theorem Ev.bin {l r : Expr} {op : Operator} {pos : Pos} {Q : V → Store → Prop}
    (h : Ev C A env l ρ σ (fun x σ1 => Ev C A env r ρ σ1 (fun y σ2 => BinWP C A op x y σ2 Q X) X) X) : Ev C A env (.BinOp l op r pos) ρ σ Q X := by
  intro s S F
  refine wpAny_BinOp (wpAny_mono (h s S F) ?_ fun _ _ z => z)
  rintro a s1 ⟨x, σ1, h1, r1, S1, e1⟩
  refine wpAny_mono (h1 s1 S1 (F.evo e1)) ?_ fun _ _ z => z
  rintro b s2 ⟨y, σ2, h2, r2, S2, e2⟩
  exact wpAny_mono (h2 s2 a b S2 (r1.mono e2.tup) r2) (fun _ _ z => (z.after e2).after e1) fun _ _ z => z
end

end Mine

set_option autoImplicit false
set_option linter.unusedVariables false
namespace Mine
open PySem PySem.W

theorem St.toks {C : Cx} {σ : Store} {s : Shared} (x : St C σ s) (t : Nat) : St C σ { s with toks := t } := ⟨x.base, x.rep, x.above, x.gens, x.os⟩

section
variable {C : Cx} {A : Around} {env : Env} {ρ : Rho} {σ : Store} {X : XP}

theorem EP.pure {s : Shared} {Q : V → Store → Prop} {v : Value} {x : V} (S : St C σ s) (q : Q x σ) (r : VR s.heap v x) : EP C σ s.heap Q v s :=
  ⟨x, σ, q, r, S, .refl ..⟩
theorem EP.pureT {s : Shared} {Q : V → Store → Prop} {v : Value} {x : V} {t : Nat} (S : St C σ s) (q : Q x σ) (r : VR s.heap v x) : EP C σ s.heap Q v { s with toks := t } :=
  ⟨x, σ, q, r, S.toks t, .refl ..⟩

/- constants -/
theorem Ev.cint {i : Int} {k : Nat} {pos : Pos} {Q : V → Store → Prop} (h : Q (.int i) σ) : Ev C A env (.Constant (.int i) k pos) ρ σ Q X :=
  fun _ S _ => wpAny_Constant_int (EP.pureT S h (.int _ _))
theorem Ev.cstr {i : Str} {k : Nat} {pos : Pos} {Q : V → Store → Prop} (h : Q (.str i) σ) : Ev C A env (.Constant (.str i) k pos) ρ σ Q X :=
  fun _ S _ => wpAny_Constant_str (EP.pureT S h (.str _ _))
theorem Ev.cbool {i : Bool} {k : Nat} {pos : Pos} {Q : V → Store → Prop} (h : Q (.bool i) σ) : Ev C A env (.Constant (.bool i) k pos) ρ σ Q X :=
  fun _ S _ => wpAny_Constant_bool (EP.pure S h (.bool _))
theorem Ev.cnone {k : Nat} {pos : Pos} {Q : V → Store → Prop} (h : Q .none σ) : Ev C A env (.Constant .none k pos) ρ σ Q X :=
  fun _ S _ => wpAny_Constant_none (EP.pure S h .none)

/- names -/
theorem Ev.loc {x : Str} {pos : Pos} {v : V} {Q : V → Store → Prop} (hk : env.kindOf x = some .local) (hv : ρ.get x = some v) (h : Q v σ)
    (hd : (x == ("__debug__" : Str)) = false) : Ev C A env (.Name x pos) ρ σ Q X := by
  intro s S F
  obtain ⟨m, hm, f⟩ := F.loc
  obtain ⟨u, hu, r⟩ := f x v hk hv
  exact wpAny_Name (wpAny_loadName_local F.fn hk hm hu (EP.pure S h r)) hd
theorem Ev.cel {x : Str} {pos : Pos} {v : V} {c : Addr} {Q : V → Store → Prop} (hk : env.kindOf x = some .cell) (hc : env.cells.lookup x = some c) (hv : ρ.get x = some v) (h : Q v σ)
    (hd : (x == ("__debug__" : Str)) = false) : Ev C A env (.Name x pos) ρ σ Q X := by
  intro s S F
  obtain ⟨ov, a, b⟩ := F.cell x c hc
  obtain ⟨u, rfl, r⟩ := b v hv
  exact wpAny_Name (wpAny_loadName_cell F.fn hk hc a (EP.pure S h r)) hd
/- compare -/
theorem Ev.cmp {l r : Expr} {op : CmpOp} {pos : Pos} {Q : V → Store → Prop}
    (h : Ev C A env l ρ σ (fun x σ1 => Ev C A env r ρ σ1 (fun y σ2 => CmpWP C A op x y σ2 Q X) X) X) (hm : behindInMarks op r = false := by kernel_rfl) : Ev C A env (.Compare l [op] [r] pos) ρ σ Q X := by
  intro s S F
  refine wpAny_Compare1 (wpAny_mono (h s S F) ?_ fun _ _ z => z) hm
  rintro a s1 ⟨x, σ1, h1, r1, S1, e1⟩
  refine wpAny_mono (h1 s1 S1 (F.evo e1)) ?_ fun _ _ z => z
  rintro b s2 ⟨y, σ2, h2, r2, S2, e2⟩
  exact wpAny_mono (h2 s2 a b S2 (r1.mono e2.tup) r2) (fun _ _ z => (z.after e2).after e1) fun _ _ z => z

theorem Ev.un {e : Expr} {op : UnaryOp} {pos : Pos} {Q : V → Store → Prop} (h : Ev C A env e ρ σ (fun x σ1 => UnWP C A op x σ1 Q X) X) : Ev C A env (.UnaryOp op e pos) ρ σ Q X := by
  intro s S F
  refine wpAny_UnaryOp (wpAny_mono (h s S F) ?_ fun _ _ z => z)
  rintro a s1 ⟨x, σ1, h1, r1, S1, e1⟩
  exact wpAny_mono (h1 s1 a S1 r1) (fun _ _ z => z.after e1) fun _ _ z => z

theorem TP.after {σ1 : Store} {h h1 : Heap} {Q : Bool → Store → Prop} {v : Bool} {s' : Shared} (x : TP C σ1 h1 Q v s') (k : Evo σ h σ1 h1) : TP C σ h Q v s' :=
  let ⟨a, b, c, d⟩ := x; ⟨a, b, c, k.trans d⟩
theorem TP.pure {s : Shared} {Q : Bool → Store → Prop} {v : Bool} (S : St C σ s) (q : Q v σ) : TP C σ s.heap Q v s := ⟨σ, q, S, .refl ..⟩

theorem Tst.cmp {l r : Expr} {op : CmpOp} {pos : Pos} {Q : Bool → Store → Prop}
    (h : Ev C A env l ρ σ (fun x σ1 => Ev C A env r ρ σ1 (fun y σ2 => CmpWP C A op x y σ2 (fun c σ3 => TruWP C A c σ3 Q X) X) X) X) (hm : behindInMarks op r = false := by kernel_rfl) :
    Tst C A env (.Compare l [op] [r] pos) ρ σ Q X := by
  intro s S F
  refine wpAny_isTrue_Compare1 (wpAny_mono (h s S F) ?_ fun _ _ z => z) hm
  rintro a s1 ⟨x, σ1, h1, r1, S1, e1⟩
  refine wpAny_mono (h1 s1 S1 (F.evo e1)) ?_ fun _ _ z => z
  rintro b s2 ⟨y, σ2, h2, r2, S2, e2⟩
  refine wpAny_mono (h2 s2 a b S2 (r1.mono e2.tup) r2) ?_ fun _ _ z => z
  rintro c s3 ⟨z, σ3, h3, r3, S3, e3⟩
  exact wpAny_mono (h3 s3 c S3 r3) (fun _ _ z => TP.after z ((e1.trans e2).trans e3)) fun _ _ z => z

theorem Tst.not {e : Expr} {pos : Pos} {Q : Bool → Store → Prop} (h : Tst C A env e ρ σ (fun b σ' => Q (!b) σ') X) : Tst C A env (.UnaryOp .Not e pos) ρ σ Q X :=
  fun s S F => wpAny_isTrue_Not (wpAny_mono (h s S F) (fun _ _ ⟨a, b, c, d⟩ => ⟨a, b, c, d⟩) fun _ _ z => z)

/-- a test by its value -/
theorem Tst.val {e : Expr} {Q : Bool → Store → Prop} (h : Ev C A env e ρ σ (fun x σ1 => TruWP C A x σ1 Q X) X)
    (he : isTrue e env (eval e env) = (do let v ← eval e env; standAt e.pos; holding [v] (truthy v)) := by kernel_rfl) : Tst C A env e ρ σ Q X := by
  intro s S F
  refine wpAny_isTrue_value (wpAny_mono (h s S F) ?_ fun _ _ z => z) he
  rintro c s3 ⟨z, σ3, h3, r3, S3, e3⟩
  exact wpAny_mono (h3 s3 c S3 r3) (fun _ _ z => TP.after z e3) fun _ _ z => z

def AllT (C : Cx) (A : Around) (env : Env) (op : BoolOp) (es : List Expr) (ρ : Rho) (σ : Store) (Q : Bool → Store → Prop) (X : XP) : Prop :=
  ∀ s, St C σ s → Fm C σ s.heap env ρ → wpAny C.M A (allTrue op es env) (TP C σ s.heap Q) X s
theorem Tst.boolop {op : BoolOp} {es : List Expr} {pos : Pos} {Q : Bool → Store → Prop} (h : AllT C A env op es ρ σ Q X) : Tst C A env (.BoolOp op es pos) ρ σ Q X :=
  fun s S F => wpAny_isTrue_BoolOp (h s S F)
theorem AllT.and_nil {Q : Bool → Store → Prop} (h : Q true σ) : AllT C A env .And [] ρ σ Q X := fun s S _ => wpAny_allTrue_And_nil (TP.pure S h)
theorem AllT.or_nil {Q : Bool → Store → Prop} (h : Q false σ) : AllT C A env .Or [] ρ σ Q X := fun s S _ => wpAny_allTrue_Or_nil (TP.pure S h)
theorem AllT.and_cons {e : Expr} {es : List Expr} {Q : Bool → Store → Prop} (h : Tst C A env e ρ σ (fun b σ1 => if b then AllT C A env .And es ρ σ1 Q X else Q false σ1) X) : AllT C A env .And (e :: es) ρ σ Q X := by
  intro s S F
  refine wpAny_allTrue_And_cons (wpAny_mono (h s S F) ?_ fun _ _ z => z)
  rintro b s1 ⟨σ1, h1, S1, e1⟩
  cases b with
  | true => exact wpAny_mono (h1 s1 S1 (F.evo e1)) (fun _ _ z => TP.after z e1) fun _ _ z => z
  | false => exact ⟨σ1, h1, S1, e1⟩
theorem AllT.or_cons {e : Expr} {es : List Expr} {Q : Bool → Store → Prop} (h : Tst C A env e ρ σ (fun b σ1 => if b then Q true σ1 else AllT C A env .Or es ρ σ1 Q X) X) : AllT C A env .Or (e :: es) ρ σ Q X := by
  intro s S F
  refine wpAny_allTrue_Or_cons (wpAny_mono (h s S F) ?_ fun _ _ z => z)
  rintro b s1 ⟨σ1, h1, S1, e1⟩
  cases b with
  | false => exact wpAny_mono (h1 s1 S1 (F.evo e1)) (fun _ _ z => TP.after z e1) fun _ _ z => z
  | true => exact ⟨σ1, h1, S1, e1⟩

/- and, or as values -/
def BoolE (C : Cx) (A : Around) (env : Env) (pos : Pos) (op : BoolOp) (es : List Expr) (ρ : Rho) (σ : Store) (Q : V → Store → Prop) (X : XP) : Prop :=
  ∀ s, St C σ s → Fm C σ s.heap env ρ → wpAny C.M A (boolOp pos op (evalEach es env)) (EP C σ s.heap Q) X s
theorem Ev.boolop {op : BoolOp} {es : List Expr} {pos : Pos} {Q : V → Store → Prop} (h : BoolE C A env pos op es ρ σ Q X) : Ev C A env (.BoolOp op es pos) ρ σ Q X :=
  fun s S F => h s S F
theorem BoolE.one {op : BoolOp} {e : Expr} {pos : Pos} {Q : V → Store → Prop} (h : Ev C A env e ρ σ Q X) : BoolE C A env pos op [e] ρ σ Q X :=
  fun s S F => h s S F
theorem BoolE.and {e e' : Expr} {es : List Expr} {pos : Pos} {Q : V → Store → Prop}
    (h : Ev C A env e ρ σ (fun x σ1 => TruWP C A x σ1 (fun b σ2 => if b then BoolE C A env pos .And (e' :: es) ρ σ2 Q X else Q x σ2) X) X) : BoolE C A env pos .And (e :: e' :: es) ρ σ Q X := by
  intro s S F
  show wpAny C.M A (do
    let v ← eval e env
    standAt pos
    let t ← holding [v] (truthy v)
    match BoolOp.And, t with
    | .And, false | .Or, true => pure v
    | _, _ => boolOp pos .And (evalEach (e' :: es) env)) _ _ s
  refine wpAny_bind (wpAny_mono (h s S F) ?_ fun _ _ z => z)
  rintro v s1 ⟨x, σ1, h1, r1, S1, e1⟩
  refine wpAny_bind (wpAny_standAt (wpAny_bind (wpAny_holding (wpAny_mono (h1 s1 v S1 r1) ?_ fun _ _ z => z))))
  rintro t s2 ⟨σ2, h2, S2, e2⟩
  cases t with
  | true => exact wpAny_mono (h2 s2 S2 ((F.evo e1).evo e2)) (fun _ _ z => (z.after e2).after e1) fun _ _ z => z
  | false => exact wpAny_pure ⟨x, σ2, h2, r1.mono e2.tup, S2, e1.trans e2⟩
/- chains of two -/
theorem Ev.chain {l r1 r2 : Expr} {op1 op2 : CmpOp} {pos : Pos} {Q : V → Store → Prop}
    (h : Ev C A env l ρ σ (fun x σ1 => Ev C A env r1 ρ σ1 (fun y σ2 => CmpWP C A op1 x y σ2 (fun c σ3 => TruWP C A c σ3 (fun b σ4 =>
      if b then Ev C A env r2 ρ σ4 (fun z σ5 => CmpWP C A op2 y z σ5 Q X) X else Q c σ4) X) X) X) X)
    (hm : lastMarks [op1, op2] [r1, r2] = false := by kernel_rfl) : Ev C A env (.Compare l [op1, op2] [r1, r2] pos) ρ σ Q X := by
  intro s S F
  refine PyProof.Rows.Compare_chain (wpAny_mono (h s S F) ?_ fun _ _ z => z) hm
  rintro a s1 ⟨x, σ1, h1, v1, S1, e1⟩
  refine PyProof.Rows.chain_link (wpAny_mono (h1 s1 S1 (F.evo e1)) ?_ fun _ _ z => z)
  rintro b s2 ⟨y, σ2, h2, v2, S2, e2⟩
  refine wpAny_mono (h2 s2 a b S2 (v1.mono e2.tup) v2) ?_ fun _ _ z => z
  rintro c s3 ⟨z, σ3, h3, v3, S3, e3⟩
  refine wpAny_mono (h3 s3 c S3 v3) ?_ fun _ _ z => z
  rintro t s4 ⟨σ4, h4, S4, e4⟩
  have e14 := ((e1.trans e2).trans e3).trans e4
  cases t with
  | false => exact ⟨z, σ4, h4, v3.mono e4.tup, S4, e14⟩
  | true =>
    refine PyProof.Rows.chain_last (wpAny_mono (h4 s4 S4 (F.evo e14)) ?_ fun _ _ z => z)
    rintro d s5 ⟨z', σ5, h5, v5, S5, e5⟩
    exact wpAny_mono (h5 s5 b d S5 (((v2.mono e3.tup).mono e4.tup).mono e5.tup) v5) (fun _ _ z => z.after (e14.trans e5)) fun _ _ z => z
theorem Tst.chain {l r1 r2 : Expr} {op1 op2 : CmpOp} {pos : Pos} {Q : Bool → Store → Prop}
    (h : Ev C A env l ρ σ (fun x σ1 => Ev C A env r1 ρ σ1 (fun y σ2 => CmpWP C A op1 x y σ2 (fun c σ3 => TruWP C A c σ3 (fun b σ4 =>
      if b then Ev C A env r2 ρ σ4 (fun z σ5 => CmpWP C A op2 y z σ5 (fun c σ6 => TruWP C A c σ6 Q X) X) X else Q false σ4) X) X) X) X)
    (hm : lastMarks [op1, op2] [r1, r2] = false := by kernel_rfl) : Tst C A env (.Compare l [op1, op2] [r1, r2] pos) ρ σ Q X := by
  intro s S F
  refine PyProof.Rows.isTrue_chain (wpAny_mono (h s S F) ?_ fun _ _ z => z) hm
  rintro a s1 ⟨x, σ1, h1, v1, S1, e1⟩
  refine PyProof.Rows.test_link (wpAny_mono (h1 s1 S1 (F.evo e1)) ?_ fun _ _ z => z)
  rintro b s2 ⟨y, σ2, h2, v2, S2, e2⟩
  refine wpAny_mono (h2 s2 a b S2 (v1.mono e2.tup) v2) ?_ fun _ _ z => z
  rintro c s3 ⟨z, σ3, h3, v3, S3, e3⟩
  refine wpAny_mono (h3 s3 c S3 v3) ?_ fun _ _ z => z
  rintro t s4 ⟨σ4, h4, S4, e4⟩
  have e14 := ((e1.trans e2).trans e3).trans e4
  cases t with
  | false => exact ⟨σ4, h4, S4, e14⟩
  | true =>
    refine PyProof.Rows.test_last (wpAny_mono (h4 s4 S4 (F.evo e14)) ?_ fun _ _ z => z)
    rintro d s5 ⟨z', σ5, h5, v5, S5, e5⟩
    refine wpAny_mono (h5 s5 b d S5 (((v2.mono e3.tup).mono e4.tup).mono e5.tup) v5) ?_ fun _ _ z => z
    rintro f s6 ⟨z'', σ6, h6, v6, S6, e6⟩
    exact wpAny_mono (h6 s6 f S6 v6) (fun _ _ z => TP.after z ((e14.trans e5).trans e6)) fun _ _ z => z

/- ints -/
theorem BinWP.add_int {a b : Int} {Q : V → Store → Prop} (h : Q (.int (a + b)) σ) : BinWP C A .Add (.int a) (.int b) σ Q X := by
  intro s a b S ra rb
  obtain ⟨_, rfl⟩ := ra.intI
  obtain ⟨_, rfl⟩ := rb.intI
  exact PySem.P.add_int (EP.pureT S h (.int _ _))
theorem BinWP.sub_int {a b : Int} {Q : V → Store → Prop} (h : Q (.int (a - b)) σ) : BinWP C A .Sub (.int a) (.int b) σ Q X := by
  intro s a b S ra rb
  obtain ⟨_, rfl⟩ := ra.intI
  obtain ⟨_, rfl⟩ := rb.intI
  exact PySem.P.sub_int (EP.pureT S h (.int _ _))
theorem BinWP.mul_int {a b : Int} {Q : V → Store → Prop} (h : Q (.int (a * b)) σ) (hm : IntMulOk a b) : BinWP C A .Mult (.int a) (.int b) σ Q X := by
  intro s a b S ra rb
  obtain ⟨_, rfl⟩ := ra.intI
  obtain ⟨_, rfl⟩ := rb.intI
  exact PySem.P.mul_int (EP.pureT S h (.int _ _)) hm
theorem BinWP.fdiv_int {a b : Int} {Q : V → Store → Prop} (hb : b ≠ 0) (hs : b.natAbs < 1073741824) (h : Q (.int (a.fdiv b)) σ) : BinWP C A .FloorDiv (.int a) (.int b) σ Q X := by
  intro s a b S ra rb
  obtain ⟨_, rfl⟩ := ra.intI
  obtain ⟨_, rfl⟩ := rb.intI
  exact PyProof.Rows.floordiv_int hb (EP.pureT S h (.int _ _)) (.inl (PyProof.noPylong_small hs))
theorem BinWP.fmod_int {a b : Int} {Q : V → Store → Prop} (hb : b ≠ 0) (h : Q (.int (a.fmod b)) σ) : BinWP C A .Mod (.int a) (.int b) σ Q X := by
  intro s a b S ra rb
  obtain ⟨_, rfl⟩ := ra.intI
  obtain ⟨_, rfl⟩ := rb.intI
  exact PyProof.Rows.mod_int' hb (EP.pureT S h (.int _ _))
theorem UnWP.neg_int {a : Int} {Q : V → Store → Prop} (h : Q (.int (-a)) σ) : UnWP C A .USub (.int a) σ Q X := by
  intro s a S r
  obtain ⟨_, rfl⟩ := r.intI
  exact PySem.P.neg_int (EP.pureT S h (.int _ _))
theorem CmpWP.lt_int {a b : Int} {Q : V → Store → Prop} (h : Q (.bool (decide (a < b))) σ) : CmpWP C A .Lt (.int a) (.int b) σ Q X := by
  intro s a b S ra rb
  obtain ⟨_, rfl⟩ := ra.intI
  obtain ⟨_, rfl⟩ := rb.intI
  exact PySem.P.lt_int (EP.pure S h (.bool _))
theorem CmpWP.le_int {a b : Int} {Q : V → Store → Prop} (h : Q (.bool (decide (a ≤ b))) σ) : CmpWP C A .LtE (.int a) (.int b) σ Q X := by
  intro s a b S ra rb
  obtain ⟨_, rfl⟩ := ra.intI
  obtain ⟨_, rfl⟩ := rb.intI
  exact PySem.P.le_int (EP.pure S h (.bool _))
theorem CmpWP.gt_int {a b : Int} {Q : V → Store → Prop} (h : Q (.bool (decide (b < a))) σ) : CmpWP C A .Gt (.int a) (.int b) σ Q X := by
  intro s a b S ra rb
  obtain ⟨_, rfl⟩ := ra.intI
  obtain ⟨_, rfl⟩ := rb.intI
  exact PySem.P.gt_int (EP.pure S h (.bool _))
theorem CmpWP.ge_int {a b : Int} {Q : V → Store → Prop} (h : Q (.bool (decide (b ≤ a))) σ) : CmpWP C A .GtE (.int a) (.int b) σ Q X := by
  intro s a b S ra rb
  obtain ⟨_, rfl⟩ := ra.intI
  obtain ⟨_, rfl⟩ := rb.intI
  exact PySem.P.ge_int (EP.pure S h (.bool _))
theorem CmpWP.eq_int {a b : Int} {Q : V → Store → Prop} (h : Q (.bool (a == b)) σ) : CmpWP C A .Eq (.int a) (.int b) σ Q X := by
  intro s a b S ra rb
  obtain ⟨_, rfl⟩ := ra.intI
  obtain ⟨_, rfl⟩ := rb.intI
  exact PySem.P.eq_int (EP.pure S h (.bool _))
theorem CmpWP.ne_int {a b : Int} {Q : V → Store → Prop} (h : Q (.bool (a != b)) σ) : CmpWP C A .NotEq (.int a) (.int b) σ Q X := by
  intro s a b S ra rb
  obtain ⟨_, rfl⟩ := ra.intI
  obtain ⟨_, rfl⟩ := rb.intI
  exact PySem.P.ne_int (EP.pure S h (.bool _))
/- strs -/
theorem BinWP.add_str {a b : Str} {Q : V → Store → Prop} (h : Q (.str (a ++ b)) σ) (hs : a.length + b.length ≤ sizeLine) : BinWP C A .Add (.str a) (.str b) σ Q X := by
  intro s a b S ra rb
  obtain ⟨_, rfl⟩ := ra.strI
  obtain ⟨_, rfl⟩ := rb.strI
  exact PyProof.Rows.add_str (fun _ _ => EP.pureT S h (.str _ _)) hs
theorem CmpWP.eq_str {a b : Str} {Q : V → Store → Prop} (h : Q (.bool (a == b)) σ) : CmpWP C A .Eq (.str a) (.str b) σ Q X := by
  intro s a b S ra rb
  obtain ⟨_, rfl⟩ := ra.strI
  obtain ⟨_, rfl⟩ := rb.strI
  exact PyProof.Rows.eq_str (EP.pure S h (.bool _))
theorem CmpWP.ne_str {a b : Str} {Q : V → Store → Prop} (h : Q (.bool (a != b)) σ) : CmpWP C A .NotEq (.str a) (.str b) σ Q X := by
  intro s a b S ra rb
  obtain ⟨_, rfl⟩ := ra.strI
  obtain ⟨_, rfl⟩ := rb.strI
  exact PyProof.Rows.ne_str (EP.pure S h (.bool _))
/- truth -/
theorem TruWP.bool {b : Bool} {Q : Bool → Store → Prop} (h : Q b σ) : TruWP C A (.bool b) σ Q X := by
  intro s a S r
  obtain rfl := r.boolI
  exact wpAny_truthy_bool (TP.pure S h)
end

end Mine

set_option autoImplicit false
set_option linter.unusedVariables false
namespace Mine
open PySem PySem.W

section
variable {C : Cx} {A : Around} {env : Env} {ρ : Rho} {σ : Store} {X : XP} {s : Shared}

theorem tupKeep_sameBut {h h' : Heap} {a : Addr} (hs : Heap.SameBut a h h') (hn : ∀ o, h.get? a = some o → ¬ Imm o) : TupKeep h h' := fun b o i e => by
  by_cases q : b = a
  · subst q; exact absurd i (hn _ e)
  · exact (hs.2 b q).trans e
theorem Rep.notTup {h : Heap} {a : Addr} {o : O} (r : Rep C h a o) : ∀ o, h.get? a = some o → ¬ Imm o := fun o e => by
  obtain ⟨x, hx, h1⟩ := r.isSome
  rw [hx] at e; cases e; exact h1

theorem St.ne_of {a b : Addr} {o : O} (S : St C σ s) (ha : σ a = some o) (hb : σ b = none) : b ≠ a := fun e => by rw [e, ha] at hb; cases hb

theorem St.set {o o' : O} {a : Addr} {h' : Heap} {t : Nat} (S : St C σ s) (ha : σ a = some o) (hb : Heap.SameBut a s.heap h') (r : Rep C h' a o') :
    St C (σ.upd a o') { s with heap := h', toks := t } ∧ Evo σ s.heap (σ.upd a o') h' := by
  have tk : TupKeep s.heap h' := tupKeep_sameBut hb (S.rep a o ha).notTup
  refine ⟨⟨fun b x e => ?_, fun b x e => ?_, fun b x e => ?_, S.gens, S.os⟩, fun b x e n => ?_, fun b x e => ?_, fun b x e => ?_, tk⟩
  · have : b ≠ a := fun q => by
      subst q
      rw [(S.above b o ha).1] at e; cases e
    exact (hb.2 b this).trans (S.base b x e)
  · by_cases q : b = a
    · subst q; rw [Store.upd_self] at e; cases e; exact r
    · rw [Store.upd_ne _ _ q] at e
      exact (S.rep b x e).at (fun y hy => (hb.2 b q).trans hy) tk
  · by_cases q : b = a
    · subst q; exact S.above b o ha
    · rw [Store.upd_ne _ _ q] at e; exact S.above b x e
  · exact .inl ((hb.2 b (S.ne_of ha n)).trans e)
  · left
    by_cases q : b = a
    · subst q; exact ⟨_, ha⟩
    · rw [Store.upd_ne _ _ q] at e; exact ⟨_, e⟩
  · by_cases q : b = a
    · subst q; exact ⟨_, Store.upd_self ..⟩
    · exact ⟨x, by rw [Store.upd_ne _ _ q]; exact e⟩

theorem St.fresh (S : St C σ s) : σ s.heap.objs.size = none := by
  cases q : σ s.heap.objs.size with
  | none => rfl
  | some o =>
    obtain ⟨x, hx, _⟩ := (S.rep _ _ q).isSome
    exact absurd (Heap.lt_size hx) (Nat.lt_irrefl _)

theorem get?_fresh (h : Heap) : h.get? h.objs.size = none := by
  cases q : h.get? h.objs.size with
  | none => rfl
  | some o => exact absurd (Heap.lt_size q) (Nat.lt_irrefl _)

theorem Evo.ext {h h' : Heap} (k : ∀ b o, h.get? b = some o → h'.get? b = some o) : Evo σ h σ h' :=
  ⟨fun b o e _ => .inl (k b o e), fun b o e => .inl ⟨o, e⟩, fun b o e => ⟨o, e⟩, fun a o i e => k _ _ e⟩
theorem St.ext {h' : Heap} {t : Nat} (S : St C σ s) (k : ∀ b o, s.heap.get? b = some o → h'.get? b = some o) : St C σ { s with heap := h', toks := t } :=
  ⟨fun b o e => k _ _ (S.base b o e), fun a o e => (S.rep a o e).at (fun x hx => k _ _ hx) fun _ _ _ e => k _ _ e, S.above, S.gens, S.os⟩

theorem push_size (h : Heap) (x : Obj) : (h.push x).objs.size = h.objs.size + 1 := by
  obtain ⟨o, l⟩ := h; simp [Heap.push]

theorem St.baseFresh {a : Addr} (S : St C σ s) (h : C.n₀ ≤ a) : C.h₀.get? a = none := by
  cases q : C.h₀.get? a with
  | none => rfl
  | some o => exact absurd (C.low _ _ q) (Nat.not_lt.mpr h)
theorem St.new {x : Obj} {o : O} {t : Nat} (S : St C σ s) (r : Rep C (s.heap.push x) s.heap.objs.size o) :
    St C (σ.upd s.heap.objs.size o) { s with heap := s.heap.push x, toks := t } ∧ Evo σ s.heap (σ.upd s.heap.objs.size o) (s.heap.push x) := by
  have k : ∀ b y, s.heap.get? b = some y → (s.heap.push x).get? b = some y := fun b y e => Heap.get?_push_of_some _ e
  have S' := S.ext (t := t) k
  refine ⟨⟨S'.base, fun b y e => ?_, fun b y e => ?_, S'.gens, S'.os⟩, fun b y e n => .inl (k b y e), fun b y e => ?_, fun b y e => ?_, fun a o i e => k _ _ e⟩
  · by_cases q : b = s.heap.objs.size
    · subst q; rw [Store.upd_self] at e; cases e; exact r
    · rw [Store.upd_ne _ _ q] at e; exact S'.rep b y e
  · by_cases q : b = s.heap.objs.size
    · subst q; exact ⟨S.baseFresh S.size, .inl S.size⟩
    · rw [Store.upd_ne _ _ q] at e; exact S.above b y e
  · by_cases q : b = s.heap.objs.size
    · subst q; exact .inr (get?_fresh _)
    · rw [Store.upd_ne _ _ q] at e; exact .inl ⟨_, e⟩
  · by_cases q : b = s.heap.objs.size
    · subst q; exact ⟨_, Store.upd_self ..⟩
    · exact ⟨y, by rw [Store.upd_ne _ _ q]; exact e⟩

theorem St.push {x : Obj} {t : Nat} (S : St C σ s) : St C σ { s with heap := s.heap.push x, toks := t } :=
  S.ext (fun b y e => Heap.get?_push_of_some _ e)
theorem Evo.push {h : Heap} {x : Obj} : Evo σ h σ (h.push x) := .ext fun b y e => Heap.get?_push_of_some _ e

/- argument lists, displays -/
inductive AP (C : Cx) (σ : Store) (h : Heap) (Q : List V → Store → Prop) (vs : List Value) (s' : Shared) : Prop
  | mk (xs : List V) (σ' : Store) (q : Q xs σ') (r : VRs s'.heap vs xs) (S : St C σ' s') (e : Evo σ h σ' s'.heap) : AP C σ h Q vs s'
def Ags (C : Cx) (A : Around) (env : Env) (pos : Pos) (es : List Expr) (ρ : Rho) (σ : Store) (Q : List V → Store → Prop) (X : XP) : Prop :=
  ∀ s, St C σ s → Fm C σ s.heap env ρ → wpAny C.M A (spliced (backTo pos (starEach es env))) (AP C σ s.heap Q) X s
theorem Ags.nil {pos : Pos} {Q : List V → Store → Prop} (h : Q [] σ) : Ags C A env pos [] ρ σ Q X :=
  fun s S F => wpAny_items_nil ⟨[], σ, h, .nil, S, .refl ..⟩
theorem Ags.cons {pos : Pos} {e : Expr} {es : List Expr} {Q : List V → Store → Prop}
    (h : Ev C A env e ρ σ (fun x σ1 => Ags C A env pos es ρ σ1 (fun xs σ2 => Q (x :: xs) σ2) X) X)
    (he : starEach (e :: es) env = (false, eval e env) :: starEach es env := by kernel_rfl) : Ags C A env pos (e :: es) ρ σ Q X := by
  intro s S F
  refine wpAny_items_cons (wpAny_mono (h s S F) ?_ fun _ _ z => z) he
  rintro v s1 ⟨x, σ1, h1, r1, S1, e1⟩
  refine wpAny_mono (h1 s1 S1 (F.evo e1)) ?_ fun _ _ z => z
  rintro vs s2 ⟨xs, σ2, h2, r2, S2, e2⟩
  exact ⟨x :: xs, σ2, h2, .cons (r1.mono e2.tup) r2, S2, e1.trans e2⟩

theorem VRs.push {h : Heap} {x : Obj} {vs : List Value} {xs : List V} (r : VRs h vs xs) : VRs (h.push x) vs xs := r.mono fun _ _ _ e => Heap.get?_push_of_some _ e

theorem Ev.tuple {es : List Expr} {k : Nat} {pos : Pos} {Q : V → Store → Prop} (h : Ags C A env pos es ρ σ (fun xs σ1 => xs.length ≤ sizeLine ∧ Q (.tup xs) σ1) X) :
    Ev C A env (.Tuple es k pos) ρ σ Q X := by
  intro s S F
  refine wpAny_Tuple (wpAny_mono (h s S F) ?_ fun _ _ z => z)
  rintro vs s1 ⟨xs, σ1, ⟨hz, q⟩, r1, S1, e1⟩
  refine ⟨by rw [r1.length]; exact hz, .tup xs, σ1, q, .tup (n := 0) (Heap.get?_push_size _ rfl) (by simpa using r1.push), S1.push, e1.trans .push⟩

theorem rep_list_push {h : Heap} {vs : List Value} {xs : List V} (r : VRs h vs xs) : Rep C (h.push { cls := .type "list", data := .seq vs.toArray }) h.objs.size (.list xs) :=
  ⟨vs.toArray, ⟨0, Heap.get?_push_size _ rfl⟩, by simpa using r.push⟩

theorem Ev.list {es : List Expr} {pos : Pos} {Q : V → Store → Prop} (h : Ags C A env pos es ρ σ (fun xs σ1 => xs.length ≤ sizeLine ∧ ∀ a, σ1 a = none → Q (.ref a) (σ1.upd a (.list xs))) X) :
    Ev C A env (.List es pos) ρ σ Q X := by
  intro s S F
  refine wpAny_List (wpAny_mono (h s S F) ?_ fun _ _ z => z)
  rintro vs s1 ⟨xs, σ1, ⟨hz, q⟩, r1, S1, e1⟩
  obtain ⟨S2, e2⟩ := S1.new (t := s1.toks) (rep_list_push r1)
  exact ⟨by rw [r1.length]; exact hz, .ref _, _, q _ S1.fresh, .ref _, S2, e1.trans e2⟩

/- statements -/
inductive FV where
  | next | brk | cont | ret (v : V)
inductive FR (h : Heap) : Flow → FV → Prop where
  | next : FR h .next .next
  | brk : FR h .brk .brk
  | cont : FR h .cont .cont
  | ret {v : Value} {x : V} : VR h v x → FR h (.ret v) (.ret x)

def Own (env : Env) (b : Addr) : Prop := b = env.locals ∨ ∃ x, env.cells.lookup x = some b
structure EvoF (env : Env) (σ : Store) (h : Heap) (σ' : Store) (h' : Heap) : Prop where
  keep : ∀ b o, h.get? b = some o → σ b = none → ¬ Own env b → Kept h' b o
  dom : ∀ b o, σ' b = some o → (∃ o', σ b = some o') ∨ h.get? b = none
  mono : ∀ b o, σ b = some o → ∃ o', σ' b = some o'
  tup : TupKeep h h'
  there : ∀ b o, h.get? b = some o → Own env b → ∃ o', h'.get? b = some o'
theorem Evo.evoF {σ' : Store} {h h' : Heap} (x : Evo σ h σ' h') (hown : ∀ b, Own env b → σ b = none) : EvoF env σ h σ' h' :=
  ⟨fun b o e n _ => x.keep b o e n, x.dom, x.mono, x.tup, fun b o e w => (x.keep b o e (hown b w)).got⟩
theorem EvoF.refl (h : Heap) : EvoF env σ h σ h := ⟨fun _ _ e _ _ => .inl e, fun _ _ e => .inl ⟨_, e⟩, fun _ _ e => ⟨_, e⟩, .refl _, fun _ o e _ => ⟨o, e⟩⟩
theorem EvoF.trans {σ1 σ2 σ3 : Store} {h1 h2 h3 : Heap} (x : EvoF env σ1 h1 σ2 h2) (y : EvoF env σ2 h2 σ3 h3) : EvoF env σ1 h1 σ3 h3 := by
  refine ⟨fun b o e n w => ?_, fun b o e => ?_, fun b o e => ?_, x.tup.trans y.tup, fun b o e w => ?_⟩
  · refine (x.keep b o e n w).trans fun o' e' => y.keep b o' e' ?_ w
    cases q : σ2 b with
    | none => rfl
    | some o2 =>
      rcases x.dom b o2 q with ⟨o', e'⟩ | e'
      · rw [n] at e'; cases e'
      · rw [e] at e'; cases e'
  · rcases y.dom b o e with ⟨o', e'⟩ | e'
    · exact x.dom b o' e'
    · cases q : h1.get? b with
      | none => exact .inr rfl
      | some o1 =>
        left
        cases q' : σ1 b with
        | some o' => exact ⟨o', rfl⟩
        | none =>
          exfalso
          by_cases w : Own env b
          · obtain ⟨o', z⟩ := x.there b o1 q w
            rw [z] at e'; cases e'
          · obtain ⟨o', z⟩ := (x.keep b o1 q q' w).got
            rw [z] at e'; cases e'
  · obtain ⟨o', e'⟩ := x.mono b o e
    exact y.mono b o' e'
  · obtain ⟨o', z⟩ := x.there b o e w
    exact y.there b o' z w

theorem Fm.own {h : Heap} (F : Fm C σ h env ρ) : ∀ b, Own env b → σ b = none := by
  rintro b (rfl | ⟨x, e⟩)
  · exact F.locs
  · exact (F.ncell x b e).1

inductive SP (C : Cx) (env : Env) (σ : Store) (h : Heap) (Q : FV → Rho → Store → Prop) (f : Flow) (s' : Shared) : Prop
  | mk (g : FV) (ρ' : Rho) (σ' : Store) (q : Q g ρ' σ') (r : FR s'.heap f g) (S : St C σ' s') (F : Fm C σ' s'.heap env ρ') (e : EvoF env σ h σ' s'.heap) : SP C env σ h Q f s'
theorem SP.after {σ1 : Store} {h h1 : Heap} {Q : FV → Rho → Store → Prop} {f : Flow} {s' : Shared} (x : SP C env σ1 h1 Q f s') (k : EvoF env σ h σ1 h1) : SP C env σ h Q f s' :=
  let ⟨a, b, c, d, e, f, g, i⟩ := x; ⟨a, b, c, d, e, f, g, k.trans i⟩
theorem SP.mono {h : Heap} {Q Q' : FV → Rho → Store → Prop} {f : Flow} {s' : Shared} (x : SP C env σ h Q f s') (k : ∀ g ρ σ, Q g ρ σ → Q' g ρ σ) : SP C env σ h Q' f s' :=
  let ⟨a, b, c, d, e, f, g, i⟩ := x; ⟨a, b, c, k _ _ _ d, e, f, g, i⟩

def Ex (C : Cx) (A : Around) (env : Env) (st : Stmt) (ρ : Rho) (σ : Store) (Q : FV → Rho → Store → Prop) (X : XP) : Prop :=
  ∀ s, St C σ s → Fm C σ s.heap env ρ → wpAny C.M A (exec st env) (SP C env σ s.heap Q) X s
def Exs (C : Cx) (A : Around) (env : Env) (st : List Stmt) (ρ : Rho) (σ : Store) (Q : FV → Rho → Store → Prop) (X : XP) : Prop :=
  ∀ s, St C σ s → Fm C σ s.heap env ρ → wpAny C.M A (execs st env) (SP C env σ s.heap Q) X s

theorem Exs.mono {ss : List Stmt} {Q Q' : FV → Rho → Store → Prop} (h : Exs C A env ss ρ σ Q X) (k : ∀ g ρ σ, Q g ρ σ → Q' g ρ σ) : Exs C A env ss ρ σ Q' X :=
  fun s S F => wpAny_mono (h s S F) (fun _ _ z => z.mono k) fun _ _ z => z
theorem Ex.mono {ss : Stmt} {Q Q' : FV → Rho → Store → Prop} (h : Ex C A env ss ρ σ Q X) (k : ∀ g ρ σ, Q g ρ σ → Q' g ρ σ) : Ex C A env ss ρ σ Q' X :=
  fun s S F => wpAny_mono (h s S F) (fun _ _ z => z.mono k) fun _ _ z => z

/-- what goes on behind a statement -/
def Then (C : Cx) (A : Around) (env : Env) (ss : List Stmt) (Q : FV → Rho → Store → Prop) (X : XP) (g : FV) (ρ : Rho) (σ : Store) : Prop :=
  match g with
  | .next => Exs C A env ss ρ σ Q X
  | g => Q g ρ σ
theorem Exs.nil {Q : FV → Rho → Store → Prop} (h : Q .next ρ σ) : Exs C A env [] ρ σ Q X :=
  fun s S F => wpAny_execs_nil ⟨.next, ρ, σ, h, .next, S, F, .refl _⟩
theorem Exs.cons {st : Stmt} {ss : List Stmt} {Q : FV → Rho → Store → Prop} (h : Ex C A env st ρ σ (Then C A env ss Q X) X) : Exs C A env (st :: ss) ρ σ Q X := by
  intro s S F
  refine wpAny_execs_cons (wpAny_mono (h s S F) ?_ fun _ _ z => z)
  rintro f s1 ⟨g, ρ1, σ1, h1, r1, S1, F1, e1⟩
  cases r1 with
  | next => exact wpAny_mono (h1 s1 S1 F1) (fun _ _ z => z.after e1) fun _ _ z => z
  | brk => exact ⟨_, _, _, h1, .brk, S1, F1, e1⟩
  | cont => exact ⟨_, _, _, h1, .cont, S1, F1, e1⟩
  | ret r => exact ⟨_, _, _, h1, .ret r, S1, F1, e1⟩

theorem Ex.ret {e : Expr} {pos : Pos} {Q : FV → Rho → Store → Prop} (h : Ev C A env e ρ σ (fun x σ1 => Q (.ret x) ρ σ1) X) : Ex C A env (.Return (some e) pos) ρ σ Q X := by
  intro s S F
  refine wpAny_Return_some (wpAny_mono (h s S F) ?_ fun _ _ z => z)
  rintro v s1 ⟨x, σ1, h1, r1, S1, e1⟩
  exact ⟨_, _, _, h1, .ret r1, S1, F.evo e1, e1.evoF F.own⟩
theorem Ex.ite {t : Expr} {b1 b2 : List Stmt} {pos : Pos} {Q : FV → Rho → Store → Prop} (h : Tst C A env t ρ σ (fun b σ1 => if b then Exs C A env b1 ρ σ1 Q X else Exs C A env b2 ρ σ1 Q X) X) :
    Ex C A env (.If t b1 b2 pos) ρ σ Q X := by
  intro s S F
  refine wpAny_If (wpAny_mono (h s S F) ?_ fun _ _ z => z)
  rintro b s1 ⟨σ1, h1, S1, e1⟩
  cases b
  · exact wpAny_mono (h1 s1 S1 (F.evo e1)) (fun _ _ z => z.after (e1.evoF F.own)) fun _ _ z => z
  · exact wpAny_mono (h1 s1 S1 (F.evo e1)) (fun _ _ z => z.after (e1.evoF F.own)) fun _ _ z => z

/-- a list that stood at the call -/
def BaseL (C : Cx) (l : Addr) (xs : List V) : Prop := ∃ items, C.h₀.IsList l items ∧ VRs C.h₀ items.toList xs
/-- a list's items: of the store, or of the base -/
def LstAt (C : Cx) (σ : Store) (l : Addr) (xs : List V) : Prop := σ l = some (.list xs) ∨ BaseL C l xs


theorem LstAt.raw {l : Addr} {xs : List V} (h : LstAt C σ l xs) (S : St C σ s) : ∃ items, s.heap.IsList l items ∧ VRs s.heap items.toList xs := by
  rcases h with h | ⟨items, ⟨o, e, r⟩, h2⟩
  · obtain ⟨items, pl, r⟩ := S.rep _ _ h
    exact ⟨items, pl.isList, r⟩
  · exact ⟨items, ⟨o, S.base _ _ e, r⟩, h2.mono fun _ _ _ e => S.base _ _ e⟩

end

end Mine

set_option autoImplicit false
set_option linter.unusedVariables false
namespace Mine
open PySem PySem.W

section
variable {C : Cx} {A : Around} {env : Env} {ρ : Rho} {σ : Store} {X : XP} {s : Shared}

/-- a statement's value thrown away -/
theorem Ex.expr {e : Expr} {pos : Pos} {Q : FV → Rho → Store → Prop} (h : Ev C A env e ρ σ (fun x σ1 => Q .next ρ σ1) X)
    (hi : interactive env = false := by kernel_rfl) (hs : swapsWith e none pos.line env = pure false := by kernel_rfl) : Ex C A env (.Expr e pos) ρ σ Q X := by
  intro s S F
  refine wpAny_Expr_any (wpAny_mono (h s S F) ?_ fun _ _ z => z) hi hs
  rintro v s1 ⟨x, σ1, h1, r1, S1, e1⟩
  exact ⟨_, _, _, h1, .next, S1, F.evo e1, e1.evoF F.own⟩

/- assigning -/
def Asg (C : Cx) (A : Around) (env : Env) (t : Expr) (x : V) (ρ : Rho) (σ : Store) (Q : Rho → Store → Prop) (X : XP) : Prop :=
  ∀ s v, St C σ s → Fm C σ s.heap env ρ → VR s.heap v x → wpAny C.M A (assign t env v) (fun _ s' => ∃ ρ' σ', Q ρ' σ' ∧ St C σ' s' ∧ Fm C σ' s'.heap env ρ' ∧ EvoF env σ s.heap σ' s'.heap) X s

theorem Fm.storeLocal {h h' : Heap} {x : Str} {v : Value} {y : V} {m : Str → Option Value} {t : Nat} (S : St C σ s) (F : Fm C σ s.heap env ρ) (hk : env.kindOf x = some .local)
    (hm : s.heap.Ns env.locals m) (f : ∀ x v, env.kindOf x = some .local → ρ.get x = some v → ∃ u, m x = some u ∧ VR s.heap u v)
    (hn : h'.Ns env.locals (fun z => if z = x then some v else m z)) (hs : Heap.SameBut env.locals s.heap h') (r : VR s.heap v y)
    (hc : env.cells.lookup x = none) :
    St C σ { s with heap := h', toks := t } ∧ Fm C σ h' env (ρ.put x y) ∧ EvoF env σ s.heap σ h' := by
  have nt : ∀ o, s.heap.get? env.locals = some o → ¬ Imm o := fun o e => by obtain ⟨o', es, ep, ho, hd, _⟩ := hm; rw [ho] at e; cases e; exact Imm.notDict hd
  have tk := tupKeep_sameBut hs nt
  have ne : ∀ b o, σ b = some o → b ≠ env.locals := fun b o e q => by rw [q, F.locs] at e; cases e
  refine ⟨⟨fun b o e => ?_, fun b o e => ?_, S.above, S.gens, S.os⟩, ⟨F.fn, ⟨_, hn, fun z u hz hu => ?_⟩, F.locs, F.abv, fun z c hz => ?_, F.ncell, F.apart⟩, fun b o e n w => ?_, fun b o e => .inl ⟨o, e⟩, fun b o e => ⟨o, e⟩, tk, fun b o e w => ?_⟩
  · refine (hs.2 b fun q => ?_).trans (S.base b o e)
    subst q; exact absurd (C.low _ _ e) (Nat.not_lt.mpr F.abv)
  · exact (S.rep b o e).at (fun y hy => (hs.2 b (ne b o e)).trans hy) tk
  · rw [Rho.get_put] at hu
    by_cases q : z = x
    · subst q; rw [if_pos rfl] at hu; cases hu; exact ⟨v, by simp, r.mono tk⟩
    · rw [if_neg q] at hu
      obtain ⟨a, b, d⟩ := f z u hz hu
      exact ⟨a, by simp [q, b], d.mono tk⟩
  · obtain ⟨ov, a, b⟩ := F.cell z c hz
    obtain ⟨n1, n2, n3⟩ := F.ncell z c hz
    refine ⟨ov, a.sameBut hs n2, fun u hu => ?_⟩
    rw [Rho.get_put, if_neg (fun q => by subst q; rw [hc] at hz; cases hz)] at hu
    obtain ⟨p, q1, q2⟩ := b u hu
    exact ⟨p, q1, q2.mono tk⟩
  · exact .inl ((hs.2 b fun q => w (.inl q)).trans e)
  · by_cases q : b = env.locals
    · subst q
      obtain ⟨o', _, _, ho, _⟩ := hn
      exact ⟨o', ho⟩
    · exact ⟨o, (hs.2 b q).trans e⟩

theorem Asg.loc {x : Str} {pos : Pos} {y : V} {ρ' : Rho} {Q : Rho → Store → Prop} (hk : env.kindOf x = some .local) (hc : env.cells.lookup x = none) (hp : ρ.put x y = ρ') (h : Q ρ' σ) :
    Asg C A env (.Name x pos) y ρ σ Q X := by
  intro s v S F r
  obtain ⟨m, hm, f⟩ := F.loc
  refine wpAny_assign_Name (wpAny_storeName_local hk hm (fun h' hn hs => ?_) (by rw [F.fn]; rfl))
  obtain ⟨a, b, c⟩ := Fm.storeLocal (h := s.heap) (t := s.toks + 1) S F hk hm f hn hs r hc
  exact ⟨_, _, h, a, hp ▸ b, c⟩

theorem Asg.cel {x : Str} {pos : Pos} {y : V} {c : Addr} {ρ' : Rho} {Q : Rho → Store → Prop} (hk : env.kindOf x = some .cell) (hc : env.cells.lookup x = some c) (hp : ρ.put x y = ρ') (h : Q ρ' σ) :
    Asg C A env (.Name x pos) y ρ σ Q X := by
  intro s v S F r
  obtain ⟨ov, a, b⟩ := F.cell x c hc
  obtain ⟨n1, n2, n3⟩ := F.ncell x c hc
  refine wpAny_assign_Name (wpAny_storeName_cell F.fn hk hc a (fun h' hcl hs => ?_))
  have nt : ∀ o, s.heap.get? c = some o → ¬ Imm o := fun o e => by obtain ⟨o', ho, hd⟩ := a; rw [ho] at e; cases e; exact Imm.notCell hd
  have tk := tupKeep_sameBut hs nt
  have ne : ∀ b o, σ b = some o → b ≠ c := fun b o e q => by rw [q, n1] at e; cases e
  obtain ⟨m, hm, f⟩ := F.loc
  refine ⟨ρ', σ, h, ⟨fun b o e => ?_, fun b o e => ?_, S.above, S.gens, S.os⟩, hp ▸ ⟨F.fn, ⟨m, hm.sameBut hs n2.symm, fun z u hz hu => ?_⟩, F.locs, F.abv, fun z d hz => ?_, F.ncell, F.apart⟩, fun b o e n w => ?_, fun b o e => .inl ⟨o, e⟩, fun b o e => ⟨o, e⟩, tk, fun b o e w => ?_⟩
  · refine (hs.2 b fun q => ?_).trans (S.base b o e)
    subst q; exact absurd (C.low _ _ e) (Nat.not_lt.mpr n3)
  · exact (S.rep b o e).at (fun y hy => (hs.2 b (ne b o e)).trans hy) tk
  · rw [Rho.get_put, if_neg (fun q => by subst q; rw [hk] at hz; cases hz)] at hu
    obtain ⟨a, b, d⟩ := f z u hz hu
    exact ⟨a, b, d.mono tk⟩
  · by_cases q : z = x
    · subst q
      rw [hc] at hz; cases hz
      exact ⟨some v, hcl, fun u hu => by rw [Rho.get_put, if_pos rfl] at hu; cases hu; exact ⟨v, rfl, r.mono tk⟩⟩
    · have dc : d ≠ c := fun e => q (F.apart z x d hz (e ▸ hc))
      obtain ⟨ov', a', b'⟩ := F.cell z d hz
      refine ⟨ov', a'.sameBut hs dc, fun u hu => ?_⟩
      rw [Rho.get_put, if_neg q] at hu
      obtain ⟨p, q1, q2⟩ := b' u hu
      exact ⟨p, q1, q2.mono tk⟩
  · exact .inl ((hs.2 b fun q => w (.inr ⟨x, q ▸ hc⟩)).trans e)
  · by_cases q : b = c
    · subst q
      obtain ⟨o', ho, _⟩ := hcl
      exact ⟨o', ho⟩
    · exact ⟨o, (hs.2 b q).trans e⟩

/-- one target -/
theorem Ex.assign {t value : Expr} {pos : Pos} {Q : FV → Rho → Store → Prop} (h : Ev C A env value ρ σ (fun x σ1 => Asg C A env t x ρ σ1 (fun ρ' σ' => Q .next ρ' σ') X) X)
    (hs : swapsWithSole [t] value pos.line env = pure false := by kernel_rfl) (hw : swappedStores [t] value env = pure none := by kernel_rfl)
    (ht : (assignEach [t] env).map (·.2) = [assign t env] := by kernel_rfl) : Ex C A env (.Assign [t] value pos) ρ σ Q X := by
  intro s S F
  refine wpAny_Assign_stores (wpAny_mono (h s S F) ?_ fun _ _ z => z) hs hw
  rintro v s1 ⟨x, σ1, h1, r1, S1, e1⟩
  rw [ht]
  refine wpAny_mono (h1 s1 v S1 (F.evo e1) r1) ?_ fun _ _ z => z
  rintro _ s2 ⟨ρ', σ', q, S2, F2, e2⟩
  exact ⟨_, _, _, q, .next, S2, F2, (e1.evoF F.own).trans e2⟩

/- tuple targets -/
def AsgO (C : Cx) (A : Around) (env : Env) (ts : List Expr) (xs : List V) (ρ : Rho) (σ : Store) (Q : Rho → Store → Prop) (X : XP) : Prop :=
  ∀ s vs, St C σ s → Fm C σ s.heap env ρ → VRs s.heap vs xs → wpAny C.M A (assignInOrder ((assignEach ts env).map (·.2)) vs) (fun _ s' => ∃ ρ' σ', Q ρ' σ' ∧ St C σ' s' ∧ Fm C σ' s'.heap env ρ' ∧ EvoF env σ s.heap σ' s'.heap) X s
theorem AsgO.nil {Q : Rho → Store → Prop} (h : Q ρ σ) : AsgO C A env [] [] ρ σ Q X :=
  fun s vs S F r => by cases r; exact wpAny_pure ⟨ρ, σ, h, S, F, .refl _⟩
theorem AsgO.cons {t : Expr} {ts : List Expr} {x : V} {xs : List V} {Q : Rho → Store → Prop} (h : Asg C A env t x ρ σ (fun ρ1 σ1 => AsgO C A env ts xs ρ1 σ1 Q X) X)
    (ht : (assignEach (t :: ts) env).map (·.2) = assign t env :: (assignEach ts env).map (·.2) := by kernel_rfl) : AsgO C A env (t :: ts) (x :: xs) ρ σ Q X := by
  intro s vs S F r
  cases r with
  | cons r1 r2 =>
    rw [ht]
    refine wpAny_assignInOrder_more (wpAny_mono (h s _ S F r1) ?_ fun _ _ z => z)
    rintro _ s1 ⟨ρ1, σ1, q, S1, F1, e1⟩
    refine wpAny_mono (q s1 _ S1 F1 (r2.mono e1.tup)) ?_ fun _ _ z => z
    rintro _ s2 ⟨ρ2, σ2, q2, S2, F2, e2⟩
    exact ⟨ρ2, σ2, q2, S2, F2, e1.trans e2⟩
theorem Asg.tup {ts : List Expr} {xs : List V} {k : Nat} {pos : Pos} {Q : Rho → Store → Prop} (hh : A.handled = none) (hl : ts.length = xs.length) (h : AsgO C A env ts xs ρ σ Q X)
    (hn : (assignEach ts env).length = ts.length := by kernel_rfl) (hstar : (assignEach ts env).findIdx? (·.1) = none := by kernel_rfl) : Asg C A env (.Tuple ts k pos) (.tup xs) ρ σ Q X := by
  intro s v S F r
  cases r with
  | @tup a items n _ ha hr =>
    refine wpAny_assign_Tuple hh (t := a) (items := items) ⟨_, ha, rfl, n, rfl⟩ ?_ hstar (fun h' he => ?_)
    · rw [hn, hl, ← hr.length]; simp
    · have k : ∀ b o, s.heap.get? b = some o → h'.get? b = some o := fun b o e => he b o (Nat.ne_of_lt (Heap.lt_size e)) e
      have e0 : Evo σ s.heap σ h' := .ext k
      refine wpAny_mono (h { s with heap := h' } items.toList (S.ext (t := s.toks) k) (F.evo e0) (hr.mono e0.tup)) ?_ fun _ _ z => z
      rintro _ s2 ⟨ρ2, σ2, q2, S2, F2, e2⟩
      exact ⟨ρ2, σ2, q2, S2, F2, (e0.evoF F.own).trans e2⟩
end

end Mine

set_option autoImplicit false
set_option linter.unusedVariables false
namespace Mine
open PySem PySem.W

def FV.val : FV → V
  | .ret v => v
  | _ => .none
def fval : Flow → Value
  | .ret v => v
  | _ => .none
theorem FR.val {h : Heap} {f : Flow} {g : FV} (r : FR h f g) : VR h (fval f) g.val := by
  cases r <;> first | exact .none | assumption

def CallWP (C : Cx) (A : Around) (f : Value) (args : List V) (σ : Store) (Q : V → Store → Prop) (X : XP) : Prop :=
  ∀ s vs, St C σ s → VRs s.heap vs args → wpAny C.M A (call f vs) (EP C σ s.heap Q) X s

section
variable {kindOf : Str → Option NameKind} {h : Heap}
theorem bindL_notin {x : Str} : ∀ (names : List Str) (vals : List Value) (m : Str → Option Value), x ∉ names → bindL kindOf (names.zip vals) m x = m x
  | [], _, _, _ => rfl
  | _ :: _, [], _, _ => rfl
  | n :: names, v :: vals, m, hx => by
    show bindL kindOf (names.zip vals) _ x = m x
    rw [bindL_notin names vals _ fun q => hx (.tail _ q)]
    split
    · exact if_neg fun (q : x = n) => hx (q ▸ .head _)
    · rfl
theorem bindC_notin {x : Str} : ∀ (names : List Str) (vals : List Value) (m : Str → Option Value), x ∉ names → bindC kindOf (names.zip vals) m x = m x
  | [], _, _, _ => rfl
  | _ :: _, [], _, _ => rfl
  | n :: names, v :: vals, m, hx => by
    show bindC kindOf (names.zip vals) _ x = m x
    rw [bindC_notin names vals _ fun q => hx (.tail _ q)]
    split
    · rfl
    · exact if_neg fun (q : x = n) => hx (q ▸ .head _)
theorem bindL_get {x : Str} {y : V} : ∀ (names : List Str) (vals : List Value) (args : List V) (m : Str → Option Value), VRs h vals args → names.Nodup → kindOf x = some .local →
    Rho.get (names.zip args) x = some y → ∃ u, bindL kindOf (names.zip vals) m x = some u ∧ VR h u y := by
  intro names
  induction names with
  | nil => intro _ _ _ _ _ _ e; cases e
  | cons n names ih =>
    intro vals args m rr nd hk e
    cases args with
    | nil => cases e
    | cons a args =>
    obtain ⟨v, vals, rfl, r, rs⟩ := rr.consI
    have nd' := List.nodup_cons.mp nd
    show ∃ u, bindL kindOf (names.zip vals) _ x = some u ∧ _
    have e' : (if x = n then some a else Rho.get (names.zip args) x) = some y := e
    by_cases q : x = n
    · subst q
      rw [if_pos rfl] at e'; cases e'
      rw [bindL_notin names vals _ nd'.1, if_pos hk]
      exact ⟨v, if_pos rfl, r⟩
    · rw [if_neg q] at e'
      exact ih vals args _ rs nd'.2 hk e'
theorem bindC_get {x : Str} {y : V} : ∀ (names : List Str) (vals : List Value) (args : List V) (m : Str → Option Value), VRs h vals args → names.Nodup → kindOf x ≠ some .local →
    Rho.get (names.zip args) x = some y → ∃ u, bindC kindOf (names.zip vals) m x = some u ∧ VR h u y := by
  intro names
  induction names with
  | nil => intro _ _ _ _ _ _ e; cases e
  | cons n names ih =>
    intro vals args m rr nd hk e
    cases args with
    | nil => cases e
    | cons a args =>
    obtain ⟨v, vals, rfl, r, rs⟩ := rr.consI
    have nd' := List.nodup_cons.mp nd
    show ∃ u, bindC kindOf (names.zip vals) _ x = some u ∧ _
    have e' : (if x = n then some a else Rho.get (names.zip args) x) = some y := e
    by_cases q : x = n
    · subst q
      rw [if_pos rfl] at e'; cases e'
      rw [bindC_notin names vals _ nd'.1, if_neg hk]
      exact ⟨v, if_pos rfl, r⟩
    · rw [if_neg q] at e'
      exact ih vals args _ rs nd'.2 hk e'
end

theorem cellsFrom_mem : ∀ (names : List (Str × NameKind)) (n : Nat) (acc : List (Str × Addr)) (x : Str) (c : Addr), (x, c) ∈ cellsFrom n names acc → (x, c) ∈ acc ∨ (x, NameKind.cell) ∈ names
  | [], _, _, _, _, h => .inl h
  | (nm, k) :: r, n, acc, x, c, h => by
    unfold cellsFrom at h
    split at h
    · rename_i hk
      rcases cellsFrom_mem r _ _ x c h with q | q
      · rcases List.mem_cons.mp q with q | q
        · cases q
          right
          rw [← beq_iff_eq.mp hk]
          exact .head _
        · exact .inl q
      · exact .inr (.tail _ q)
    · rcases cellsFrom_mem r _ _ x c h with q | q
      · exact .inl q
      · exact .inr (.tail _ q)

/-- cells of a scope are cells by its table -/
def scopeOk (scope : Scope) : Bool := scope.names.all fun p => p.2 != .cell || scope.names.lookup p.1 == some .cell

section
variable {C : Cx} {A : Around} {env : Env} {ρ : Rho} {σ : Store} {X : XP} {s : Shared}

theorem St.callee {fd : FuncData} {f : Addr} {names : List Str} {vals : List Value} {args : List V} {s₁ : Shared} (S : St C σ s) (r : VRs s.heap vals args) (nd : names.Nodup) (hk : fd.scope.kind = .function) (hsc : scopeOk fd.scope = true)
    (x : InCallC s (callEnvC fd s.heap.objs.size f).locals (bindL (callEnvC fd s.heap.objs.size f).kindOf (names.zip vals) fun _ => none) (callEnvC fd s.heap.objs.size f).cells
        (bindC (callEnvC fd s.heap.objs.size f).kindOf (names.zip vals) fun _ => none) s₁) :
    St C σ s₁ ∧ Fm C σ s₁.heap (callEnvC fd s.heap.objs.size f) (names.zip args) ∧ (∀ b o, s.heap.get? b = some o → s₁.heap.get? b = some o) := by
  obtain ⟨⟨⟨h, tk, rfl⟩, ns, keep, fr⟩, cell, apart, above⟩ := x
  have L : (callEnvC fd s.heap.objs.size f).locals = s.heap.objs.size := rfl
  have e0 : Evo σ s.heap σ h := .ext keep
  have fresh : ∀ b, s.heap.objs.size ≤ b → σ b = none := fun b hb => by
    cases q : σ b with
    | none => rfl
    | some o =>
      obtain ⟨y, hy, _⟩ := (S.rep _ _ q).isSome
      exact absurd (Heap.lt_size hy) (Nat.not_lt.mpr hb)
  have up : ∀ n c, (callEnvC fd s.heap.objs.size f).cells.lookup n = some c → s.heap.objs.size < c := fun n c hc => L ▸ above n c (mem_of_lookup hc)
  refine ⟨S.ext keep, ⟨hk, ⟨_, ns, fun y v hy hv => bindL_get names vals args _ (r.mono e0.tup) nd hy hv⟩, fresh _ (L ▸ Nat.le_refl _), L ▸ S.size, fun y c hc => ⟨_, cell y c hc, fun v hv => ?_⟩, fun y c hc => ?_, fun y z c hy hz => ?_⟩, keep⟩
  · refine bindC_get names vals args _ (r.mono e0.tup) nd ?_ hv
    rcases cellsFrom_mem _ _ _ _ _ (mem_of_lookup hc) with q | q
    · cases q
    · have := List.all_eq_true.mp hsc _ q
      intro z
      have z' : fd.scope.names.lookup y = some .local := z
      simp only [bne_self_eq_false, Bool.false_or, beq_iff_eq] at this
      rw [z'] at this; cases this
  · have := up y c hc
    exact ⟨fresh c (Nat.le_of_lt this), fun q => by rw [q, L] at this; exact Nat.lt_irrefl _ this, Nat.le_trans S.size (Nat.le_of_lt this)⟩
  · exact name_of_addr apart (mem_of_lookup hy) (mem_of_lookup hz)

theorem EP.ret {s₁ : Shared} {fd : FuncData} {f : Addr} {Q : V → Store → Prop} {fl : Flow} {s' : Shared} (S : St C σ s) (keep : ∀ b o, s.heap.get? b = some o → s₁.heap.get? b = some o)
    (hup : ∀ n c, (callEnvC fd s.heap.objs.size f).cells.lookup n = some c → s.heap.objs.size < c)
    (z : SP C (callEnvC fd s.heap.objs.size f) σ s₁.heap (fun g _ σ' => Q g.val σ') fl s') : EP C σ s.heap Q (fval fl) s' := by
  obtain ⟨g, ρ', σ', q, r, S', F', e⟩ := z
  refine ⟨g.val, σ', q, r.val, S', fun b o hb n => ?_, fun b o hb => ?_, e.mono, fun a o i h => e.tup _ _ i (keep _ _ h)⟩
  · refine e.keep b o (keep b o hb) n ?_
    have hlt := Heap.lt_size hb
    rintro (q | ⟨x, hx⟩)
    · rw [q] at hlt; exact Nat.lt_irrefl _ hlt
    · exact absurd (hup x b hx) (Nat.not_lt.mpr (Nat.le_of_lt hlt))
  · rcases e.dom b o hb with h | h
    · exact .inl h
    · right
      cases q : s.heap.get? b with
      | none => rfl
      | some y => rw [keep b y q] at h; cases h

/-- a call of a def that raises nothing -/
theorem CallWP.fn {f : Addr} {o : Obj} {fd : FuncData} {body : List Stmt} {names : List Str} {args : List V} {Q : V → Store → Prop}
    (ho : C.h₀.get? f = some o) (hd : o.data = .func fd) (hlim : C.h₀.NoLimit) (hcd : C.h₀.CodeRec fd.code fd.qualname) (hbody : fd.body = .stmts body)
    (hbind : ∀ vals : List Value, vals.length = args.length → bindArgs fd ⟨vals, []⟩ = pure (names.zip vals)) (hclo : fd.closure = []) (nd : names.Nodup)
    (hkind : ∀ x ∈ names, fd.scope.names.lookup x = some .local ∨ (fd.scope.names.lookup x = some .cell ∧ ∀ L, ((cellsFrom L fd.scope.names []).lookup x).isSome = true))
    (hroom : A.depth < recursionLimit) (hsc : scopeOk fd.scope = true) (hco : fd.scope.isCoroutine = false) (hgen : fd.scope.isGenerator = false) (hk : fd.scope.kind = .function)
    (h : ∀ L, Exs C (A.deeper (callEnvC fd L f)) (callEnvC fd L f) body (names.zip args) σ (fun g _ σ' => Q g.val σ') (fun _ _ => False)) : CallWP C A (.ref f) args σ Q X := by
  intro s vs S r
  have hk' : ∀ b o, C.h₀.get? b = some o → s.heap.get? b = some o := S.base
  refine wpAny_call (codeAny_call_cells (fd := fd) hroom (hk' _ _ ho) hd (hlim.keeps hk') (hcd.keeps hk') hbody (hbind vs r.length) hclo ?_ (fun s₁ x => ?_) hco hgen hk)
  · intro y hy
    rcases hkind y.1 (List.of_mem_zip hy).1 with q | ⟨q, q'⟩
    · exact .inl q
    · exact .inr ⟨q, q' _⟩
  · obtain ⟨S₁, F₁, keep⟩ := S.callee r nd hk hsc x
    refine wpAny_mono (h s.heap.objs.size s₁ S₁ F₁) (fun fl s' z => ?_) (fun _ _ z => z.elim)
    have y := EP.ret S keep (fun n c hc => x.above n c (mem_of_lookup hc)) z
    cases fl <;> exact y
end

end Mine

set_option autoImplicit false
set_option linter.unusedVariables false
namespace Mine
open PySem PySem.W

section
variable {C : Cx} {A : Around} {env : Env} {ρ : Rho} {σ : Store} {X : XP} {s : Shared}

theorem St.K (S : St C σ s) : C.K.In s.heap := fun a o e => S.base _ _ (C.KX a o e)
theorem VR.base {v : Value} {x : V} (r : VR C.h₀ v x) (S : St C σ s) : VR s.heap v x := r.mono fun _ _ _ e => S.base _ _ e

theorem Ev.glob {x : Str} {pos : Pos} {v : Value} {y : V} {Q : V → Store → Prop} (hk : env.kindOf x = some .globalImplicit) (e : nsIn C.K mainGlobals x = some (some v)) (r : VR C.h₀ v y) (h : Q y σ)
    (hg : env.globals = mainGlobals) (hd : (x == ("__debug__" : Str)) = false) : Ev C A env (.Name x pos) ρ σ Q X := by
  intro s S F
  refine Calls.Name_function_global F.fn hk (Calls.loadGlobal_global (mg := C.mg) ?_ (mg_of C.KX C.hg e) (EP.pure S h (r.base S))) hd
  rw [hg]; exact C.hg.keeps S.base
theorem Ev.gblt {x : Str} {pos : Pos} {v : Value} {y : V} {Q : V → Store → Prop} (hk : env.kindOf x = some .globalImplicit) (e : nsIn C.K mainGlobals x = some none) (hv : bootBuiltins x = some v) (r : VR C.h₀ v y) (h : Q y σ)
    (hn : x ≠ "__name__") (hg : env.globals = mainGlobals) (hb : env.builtins = builtinsNs) (hd : (x == ("__debug__" : Str)) = false) : Ev C A env (.Name x pos) ρ σ Q X := by
  intro s S F
  refine Calls.Name_function_global F.fn hk (Calls.loadGlobal_builtin (mg := C.mg) (mb := C.mb) ?_ (mg_none_of C.KX C.hg e) ?_ ((C.blt x hn).trans hv) (EP.pure S h (r.base S))) hd
  · rw [hg]; exact C.hg.keeps S.base
  · rw [hb]; exact C.hb.keeps S.base

/- calls -/
/-- f may be called: its keeper is plain wherever the base stands -/
def Kp (C : Cx) (f : Value) : Prop := ∀ h : Heap, (∀ b o, C.h₀.get? b = some o → h.get? b = some o) → ∃ k, (k = Keeper.frame ∨ k = Keeper.machine ∨ k = Keeper.boundFrame) ∧ Looks C.M h (keeperOf f) k
theorem Kp.ref {f : Value} (e : keepIn C.K f = true) : Kp C f := fun h k => keeps_K e h fun a o q => k _ _ (C.KX a o q)
theorem Kp.blt {i : String} : Kp C (.builtin i) := fun h k => ⟨.machine, .inr (.inl rfl), .now⟩
theorem Kp.typ {i : String} : Kp C (.type i) := fun h k => ⟨.machine, .inr (.inl rfl), .now⟩

theorem evalArgs_sp {M : Model} {E : XP} {f : Value} {Q : Args → Shared → Prop} : ∀ {trees : List (Bool × Sem Value)}, trees.any (·.1) = false → wpAny M A (spliced trees) (fun vs s' => Q ⟨vs, []⟩ s') E s → wpAny M A (evalArgs f true trees []) Q E s
  | [], _, h => by
    unfold evalArgs
    show wpAny M A (spliced [] >>= _) Q E s
    refine wpAny_bind (wpAny_mono h (fun vs s' h' => ?_) fun _ _ x => x)
    refine wpAny_holding ?_
    exact wpAny_bind (wpAny_pure (wpAny_bind (wpAny_pure (wpAny_pure h'))))
  | (false, x) :: rest, _, h => Calls.evalArgs_plain h
  | (true, x) :: rest, e, _ => by simp at e

theorem callWith_mine {pos : Pos} {f : Value} {first : List Value} {fx : List V} {args : List Expr} {Q : V → Store → Prop} (kp : Kp C f) (S : St C σ s) (F : Fm C σ s.heap env ρ) (rf : VRs s.heap first fx)
    (h : Ags C A env pos args ρ σ (fun xs σ1 => CallWP C A f (fx ++ xs) σ1 Q X) X)
    (he : (backTo pos (starEach args env)).any (·.1) = false) :
    wpAny C.M A (callWith pos f first (backTo pos (starEach args env)) []) (EP C σ s.heap Q) X s := by
  refine callWith_of (P := fun h => ∀ b o, C.h₀.get? b = some o → h.get? b = some o) (by rw [he]; rfl) kp ?_
  refine evalArgs_sp he (wpAny_mono (h s S F) ?_ fun _ _ z => z)
  rintro vs s1 ⟨xs, σ1, q, r1, S1, e1⟩
  exact ⟨S1.base, wpAny_mono (q s1 _ S1 ((rf.mono e1.tup).append r1)) (fun _ _ z => z.after e1) fun _ _ z => z⟩

/- attributes of own instances -/
theorem dict_obj {kvs : List (Str × Value)} {h : Heap} {dx : Addr} (D : h.DictOf (strKind C.prog C.w) dx kvs) : ∃ es n, h.get? dx = some (dictOf es n) ∧ Pairs (strKind C.prog C.w) es kvs ∧ KeysOf (strKind C.prog C.w) es.toArray ∧ (kvs.map (·.1)).Nodup := by
  obtain ⟨⟨c, d, dt, sl⟩, es, ep, ho, ⟨hc, hd, hs⟩, hdt, hk, hp, hn⟩ := D
  dsimp only at hc hd hs hdt
  subst hc hd hs hdt
  exact ⟨es.toList, ep, by simpa using ho, hp, by simpa using hk, hn⟩

theorem PR.find {h : Heap} {K : Type} [DecidableEq K] {x : K} {y : V} {kvs : List (K × Value)} {es : List (K × V)} (z : PR h kvs es) : (es.find? fun p => decide (p.1 = x)).map (·.2) = some y → ∃ v, (kvs.find? fun p => decide (p.1 = x)).map (·.2) = some v ∧ VR h v y := by
  induction z with
  | nil => intro e; cases e
  | @cons k _ _ _ _ r rs ih =>
    intro e
    by_cases q : k = x
    · subst q
      simp only [List.find?_cons, decide_true, Option.map_some, Option.some.injEq] at e ⊢
      subst e
      exact ⟨_, rfl, r⟩
    · simp only [List.find?_cons, q, decide_false] at e ⊢
      exact ih e
theorem isStr_is (x : Str) (v : Value) : v.isStr x = Value.isStrOf x v := by cases v <;> rfl
theorem isStr_fun (x : Str) : (fun e : DictEntry => e.key.isStr x) = fun e => (strKind C.prog C.w).is x e.key := by
  funext e; exact isStr_is x e.key
theorem noRef_of_keys {es : List DictEntry} (hk : KeysOf (strKind C.prog C.w) es.toArray) : es.any (·.refKey) = false := by
  rw [List.any_eq_false]
  intro e he
  obtain ⟨k, q, _⟩ := hk e (by simpa using he)
  obtain ⟨t, hx⟩ := Value.isStrOf_shape q
  simp [DictEntry.refKey, hx]

theorem getL_of {kvs : List (Str × Value)} {es : List DictEntry} {x : Str} (hp : Pairs (strKind C.prog C.w) es kvs) (hk : KeysOf (strKind C.prog C.w) es.toArray) : getL x es = some (valueAt kvs x) := by
  have := hp.find x
  unfold getL
  rw [isStr_fun (C := C)]
  cases q : es.find? fun e => (strKind C.prog C.w).is x e.key with
  | some e => rw [q] at this; simpa using this
  | none =>
    rw [q] at this
    dsimp only
    rw [noRef_of_keys hk, ← this]
    rfl

def sget (es : List (Str × V)) (x : Str) : Option V := (es.find? fun p => decide (p.1 = x)).map (·.2)

theorem Ev.attr {o : Expr} {name : Str} {pos : Pos} {Q : V → Store → Prop}
    (h : Ev C A env o ρ σ (fun x σ1 => ∃ a c dx es y attr, x = .ref a ∧ σ1 a = some (.inst c dx) ∧ σ1 dx = some (.sd es) ∧ sget es name = some y ∧ plainGet C.K c name = true ∧ hasDictIn C.K c = true ∧
      findIn C.K (.ref c) name = some attr ∧ noGet C.K attr = true ∧ (∀ i, y ≠ .blt i) ∧ Q y σ1) X)
    (hbase : attributeBase o name env (eval o env) = eval o env := by kernel_rfl) : Ev C A env (.Attribute o name pos) ρ σ Q X := by
  intro s S F
  rw [arm_eval_Attribute, hbase]
  refine wpAny_bind (wpAny_mono (h s S F) ?_ fun _ _ z => z)
  rintro v s1 ⟨x, σ1, ⟨a, c, dx, es, y, attr, rfl, ha, hdx, hy, k1, k2, k3, k4, k5, q⟩, r1, S1, e1⟩
  cases r1
  have I0 := S1.rep _ _ ha
  obtain ⟨kvs, D, pr⟩ := S1.rep _ _ hdx
  obtain ⟨des, n, hd, hp, hk, hn⟩ := dict_obj D
  obtain ⟨u, hu, ru⟩ := pr.find (x := name) (y := y) hy
  have hv : handedIn u = true := by
    cases ru <;> try rfl
    exact absurd rfl (k5 _)
  refine wpAny_bind (wpAny_standAt (wpAny_bind (wpAny_holding ?_)))
  refine get_value S1.K ⟨I0, rfl, rfl, hd⟩ (plainGet_of k1).1 (findObj_own k2 k3 k4 ?_) hv ?_
  · rw [lookIn_dict, getL_of hp hk]; exact congrArg some hu
  · refine wpAny_bind (wpAny_letTemporaryGo (wpAny_pure ?_))
    exact ⟨y, σ1, q, ru, S1.toks _, e1⟩
end

end Mine

set_option autoImplicit false
set_option linter.unusedVariables false
namespace Mine
open PySem PySem.W

/-- str-keyed store -/
def sput : List (Str × V) → Str → V → List (Str × V)
  | [], x, v => [(x, v)]
  | (y, u) :: r, x, v => if x = y then (x, v) :: r else (y, u) :: sput r x v

section
variable {C : Cx} {A : Around} {env : Env} {ρ : Rho} {σ : Store} {X : XP} {s : Shared}

theorem PR.length {K : Type} {h : Heap} {a : List (K × Value)} {b : List (K × V)} (z : PR h a b) : a.length = b.length := by
  induction z with
  | nil => rfl
  | cons _ _ ih => exact congrArg (· + 1) ih
theorem stored_cons {K : Type} [DecidableEq K] {k x : K} {u v : Value} {r : List (K × Value)} (hn : (((k, u) :: r).map (·.1)).Nodup) :
    stored ((k, u) :: r) x v = if x = k then (x, v) :: r else (k, u) :: stored r x v := by
  by_cases q : x = k
  · subst q
    have : x ∉ r.map (·.1) := (List.nodup_cons.mp hn).1
    simp only [stored, List.any_cons, decide_true, Bool.true_or, if_true, List.map_cons]
    rw [map_store_of_not_mem r x v this]
  · have q' : ¬ k = x := fun e => q e.symm
    simp only [stored, List.any_cons, q', decide_false, Bool.false_or, List.map_cons, if_false, q]
    split <;> rfl

theorem PR.stored {h : Heap} {x : Str} {v : Value} {y : V} (r : VR h v y) {kvs : List (Str × Value)} {es : List (Str × V)} (z : PR h kvs es) : (kvs.map (·.1)).Nodup → PR h (stored kvs x v) (sput es x y) := by
  induction z with
  | nil =>
    intro _
    show PR h (PySem.stored [] x v) [(x, y)]
    simp only [PySem.stored, List.any_nil, Bool.false_eq_true, if_false, List.nil_append]
    exact .cons r .nil
  | @cons k _ _ _ _ a b ih =>
    intro hn
    rw [stored_cons hn]
    unfold sput
    by_cases q : x = k
    · rw [if_pos q, if_pos q]; exact .cons r b
    · rw [if_neg q, if_neg q]; exact .cons a (ih (List.nodup_cons.mp hn).2)

theorem putName_dict {h : Heap} {d : Addr} {kvs : List (Str × Value)} {name : Str} {v : Value} {t : Tok} (D : h.DictOf (strKind C.prog C.w) d kvs) :
    ∃ es n, (h.update d (Obj.putName name (hashStr C.w name) (.str name t) v)).get? d = some (dictOf es n) ∧ es.length ≤ kvs.length + 1 ∧
    (h.update d (Obj.putName name (hashStr C.w name) (.str name t) v)).DictOf (strKind C.prog C.w) d (stored kvs name v) := by
  obtain ⟨⟨c, dd, dt, sl⟩, es, ep, ho, ⟨hc, hd, hs⟩, hdt, hk, hp, hn⟩ := D
  dsimp only at hc hd hs hdt
  subst hc hd hs hdt
  have hkey : (strKind C.prog C.w).is name (.str name t) = true := by show (name == name) = true; simp
  have hidx : (es.findIdx? fun e => (strKind C.prog C.w).is name e.key) = kvs.findIdx? fun kv => decide (kv.1 = name) := by
    rw [← hp.findIdx name]; obtain ⟨l⟩ := es; simp
  have hlen := hp.length
  have e0 : (es.findIdx? fun e => e.key.isStr name) = es.findIdx? fun e => (strKind C.prog C.w).is name e.key := by rw [isStr_fun (C := C)]
  cases hi : es.findIdx? fun e => (strKind C.prog C.w).is name e.key with
  | some i =>
    have e1 : Obj.putName name (hashStr C.w name) (.str name t) v ⟨.type "dict", none, .dict es ep, #[]⟩ = dictOf (es.modify i fun e => { e with val := v }).toList ep := by
      rw [Obj.putName_eq]; unfold Obj.putNameByArray; dsimp only; rw [e0, hi]
    have g : (h.update d (Obj.putName name (hashStr C.w name) (.str name t) v)).get? d = some (dictOf (es.modify i fun e => { e with val := v }).toList ep) := by
      rw [Heap.get?_update_self _ ho (by rw [e1]; rfl), e1]
    refine ⟨_, _, g, by simp at hlen ⊢; (first | lia | omega), _, _, ep, g, ⟨rfl, rfl, rfl⟩, rfl, by rw [Array.toArray_toList]; exact hk.modify i v, ?_, ?_⟩
    · rw [stored, if_pos (any_of_findIdx_some (hidx ▸ hi))]
      have hl : (es.toList.findIdx? fun e => (strKind C.prog C.w).is name e.key) = some i := by rw [← hi]; obtain ⟨l⟩ := es; simp
      have := hp.modify hn hl v
      obtain ⟨l⟩ := es
      simpa using this
    · rw [stored, if_pos (any_of_findIdx_some (hidx ▸ hi)), keys_map_store]; exact hn
  | none =>
    have hnot : name ∉ kvs.map (·.1) := not_mem_of_findIdx_none (hidx ▸ hi)
    have hany : ¬ (kvs.any fun kv => decide (kv.1 = name)) = true := by
      rw [List.any_eq_true]; rintro ⟨kv, hkv, he⟩
      exact hnot (List.mem_map.mpr ⟨kv, hkv, of_decide_eq_true he⟩)
    have e1 : Obj.putName name (hashStr C.w name) (.str name t) v ⟨.type "dict", none, .dict es ep, #[]⟩ = dictOf (es.push ⟨hashStr C.w name, .str name t, v⟩).toList (ep + 1) := by
      rw [Obj.putName_eq]; unfold Obj.putNameByArray; dsimp only; rw [e0, hi]
    have g : (h.update d (Obj.putName name (hashStr C.w name) (.str name t) v)).get? d = some (dictOf (es.push ⟨hashStr C.w name, .str name t, v⟩).toList (ep + 1)) := by
      rw [Heap.get?_update_self _ ho (by rw [e1]; rfl), e1]
    refine ⟨_, _, g, by simp at hlen ⊢; (first | lia | omega), _, _, ep + 1, g, ⟨rfl, rfl, rfl⟩, rfl, by rw [Array.toArray_toList]; exact hk.push hkey v, ?_, ?_⟩
    · rw [stored, if_neg hany]
      have := hp.append hkey (hashStr C.w name) v
      obtain ⟨l⟩ := es
      simpa using this
    · rw [stored, if_neg hany, List.map_append, List.nodup_append]
      refine ⟨hn, by simp, ?_⟩
      intro a ha b hb
      simp only [List.map_cons, List.map_nil, List.mem_singleton] at hb
      subst hb
      exact fun e => hnot (e ▸ ha)

theorem setAttr_mine {x c dx : Addr} {kvs : List (Str × Value)} {name : Str} {v : Value} {E : XP} {Q : Unit → Shared → Prop} (KX : C.K.In s.heap) (hx : s.heap.get? x = some (instO c dx)) (D : s.heap.DictOf (strKind C.prog C.w) dx kvs)
    (hs : findIn C.K (.ref c) "__setattr__" = some (some (.builtin "object.__setattr__"))) (hp : plainOver C.K c = true) (ht : takerIn C.K c name = some none) (hh : hasDictIn C.K c = true) (hz : kvs.length ≤ 1000)
    (h : ∀ h', h'.DictOf (strKind C.prog C.w) dx (stored kvs name v) → Heap.SameBut dx s.heap h' → Q () { s with heap := h', toks := s.toks + 1 + 1 }) : wpAny C.M A (setAttr (.ref x) name v) Q E s := by
  obtain ⟨es, n, hd, hpr, hk, hn⟩ := dict_obj D
  have I : InstAt s.heap x (instO c dx) c (some (dictOf es n)) := ⟨hx, rfl, rfl, hd⟩
  refine set_plain KX I hs (osa_open (s := { s with toks := s.toks + 1 }) KX I hp ht fun b => ?_)
  obtain ⟨cd, hc, hd'⟩ := any_some hh
  refine wpAny_bind (wpAny_pure (wpAny_bind (wpAny_bind (wpAny_loadPart (s := { s with toks := s.toks + 1 }) hx (wpAny_bind (Looks.here (s := { s with toks := s.toks + 1 }) (looks_clsIn KX hc) ?_))))))
  rw [hd']
  refine wpAny_pure (a := some dx) (wpAny_bind (wpAny_pure (wpAny_bind ?_)))
  unfold nsSet
  refine wpAny_bind (wpAny_bind (wpAny_askSetting (wpAny_pure (wpAny_bind (wpAny_mkText (wpAny_bind (wpAny_loadPart (s := { s with toks := s.toks + 1 + 1 }) hd ?_)))))))
  have cc : (!es.toArray.any (·.key.isStr name) && es.toArray.any (·.refKey)) = false := by
    rw [← Array.any_toList, ← Array.any_toList]
    simp only [noRef_of_keys hk, Bool.and_false]
  dsimp only
  rw [aRefKeyMayBeTheName_at, cc]
  obtain ⟨es', n', g, hl, D'⟩ := putName_dict (name := name) (v := v) (t := s.toks + 1) D
  refine wpAny_updatePart (s := { s with toks := s.toks + 1 + 1 }) hd ?_
  refine wpAny_bind (wpAny_lookBehind g (pastItsLine_dict (by rw [List.size_toArray, sizeLine_eq]; (first | lia | omega))) ?_)
  exact wpAny_pure (h _ D' (Heap.SameBut.update ..))

theorem Asg.attr {o : Expr} {name : Str} {pos : Pos} {y : V} {Q : Rho → Store → Prop}
    (h : Ev C A env o ρ σ (fun x σ1 => ∃ a c dx es, x = .ref a ∧ σ1 a = some (.inst c dx) ∧ σ1 dx = some (.sd es) ∧ es.length ≤ 1000 ∧
      findIn C.K (.ref c) "__setattr__" = some (some (.builtin "object.__setattr__")) ∧ plainOver C.K c = true ∧ takerIn C.K c name = some none ∧ hasDictIn C.K c = true ∧ Q ρ (σ1.upd dx (.sd (sput es name y)))) X) :
    Asg C A env (.Attribute o name pos) y ρ σ Q X := by
  intro s v S F r
  rw [assign_Attribute]
  refine wpAny_bind (wpAny_holding (wpAny_mono (h s S F) ?_ fun _ _ z => z))
  rintro ov s1 ⟨x, σ1, ⟨a, c, dx, es, rfl, ha, hdx, hz, k1, k2, k3, k4, q⟩, r1, S1, e1⟩
  cases r1
  have I0 := S1.rep _ _ ha
  have hdx' := S1.rep _ _ hdx
  obtain ⟨kvs, D, pr⟩ := hdx'
  have hl : kvs.length = es.length := pr.length
  have hnd : (kvs.map (·.1)).Nodup := by obtain ⟨_, _, _, _, _, _, _, _, hn⟩ := D; exact hn
  refine wpAny_bind (wpAny_standAt (wpAny_bind (wpAny_holding (setAttr_mine S1.K I0 D k1 k2 k3 k4 (by (first | lia | omega)) fun h' D' sb => ?_))))
  refine PyProof.Rows.wpAny_release' ?_
  have tk : TupKeep s1.heap h' := tupKeep_sameBut sb (S1.rep _ _ hdx).notTup
  obtain ⟨S2, e2⟩ := S1.set (t := s1.toks + 1 + 1) (o' := .sd (sput es name y)) hdx sb ⟨_, D', PR.stored ((r.mono e1.tup).mono tk) (pr.mono tk) hnd⟩
  exact ⟨ρ, _, q, S2, (F.evo e1).evo e2, (e1.trans e2).evoF F.own⟩

/- a method of an own object -/

end

end Mine

set_option autoImplicit false
set_option linter.unusedVariables false
namespace Mine
open PySem PySem.W

/-- an iterator: `ow` are its own objects, `J k` its state ahead of its k-th item -/
structure Itr (C : Cx) (A : Around) (target : Expr) (it : Value) (ow : Addr → Prop) (J : Nat → Heap → Prop) (ok : Store → Prop) (xs : List V) : Prop where
  frame : ∀ k h h', J k h → TupKeep h h' → (∀ b o, ow b → h.get? b = some o → h'.get? b = some o) → J k h'
  notTup : ∀ k h b o, J k h → ow b → h.get? b = some o → ¬ Imm o
  notD : ∀ k h b o, J k h → ow b → h.get? b = some o → ∀ es n, o.data ≠ .dict es n
  there : ∀ k h b, J k h → ow b → ∃ o, h.get? b = some o
  more : ∀ k σ s x (Q : Option Value → Shared → Prop) (X : XP), St C σ s → ok σ → J k s.heap → xs[k]? = some x → (∀ b, ow b → σ b = none) →
    (∀ v h' tk, VR h' v x → (∀ b o, ¬ ow b → s.heap.get? b = some o → h'.get? b = some o) → (∀ b o, ow b → h'.get? b = some o → ¬ Imm o) →
      (∀ (Q' : Unit → Shared → Prop) (X' : XP), (∀ h'' tk', J (k + 1) h'' → (∀ b o, ¬ ow b → h'.get? b = some o → h''.get? b = some o) → Q' () { s with heap := h'', toks := tk' }) →
        wpAny C.M A (letOwnedTupleGo target it v) Q' X' { s with heap := h', toks := tk }) → Q (some v) { s with heap := h', toks := tk }) → wpAny C.M A (pyNext it) Q X s
  self : ∀ k (s : Shared) (Q : Value → Shared → Prop) (X : XP), J k s.heap → Q it s → wpAny C.M A (pyIter it) Q X s
  done : ∀ k σ s (Q : Option Value → Shared → Prop) (X : XP), St C σ s → ok σ → J k s.heap → xs[k]? = none → (∀ b, ow b → σ b = none) →
    (∀ h' tk, (∀ b o, ¬ ow b → s.heap.get? b = some o → h'.get? b = some o) → Q none { s with heap := h', toks := tk }) → wpAny C.M A (pyNext it) Q X s

section
variable {C : Cx} {A : Around} {env : Env} {ρ : Rho} {σ : Store} {X : XP} {s : Shared}

theorem tk_ow {h h' : Heap} {ow : Addr → Prop} (k : ∀ b o, ¬ ow b → h.get? b = some o → h'.get? b = some o) (nt : ∀ b o, ow b → h.get? b = some o → ¬ Imm o) : TupKeep h h' :=
  fun a o i e => k a _ (fun q => nt a o q e i) e
theorem St.ow {h' : Heap} {t : Nat} {ow : Addr → Prop} (S : St C σ s) (k : ∀ b o, ¬ ow b → s.heap.get? b = some o → h'.get? b = some o) (nt : ∀ b o, ow b → s.heap.get? b = some o → ¬ Imm o)
    (no : ∀ b, ow b → σ b = none) (nb : ∀ b, ow b → C.h₀.get? b = none) : St C σ { s with heap := h', toks := t } :=
  ⟨fun b o e => k b o (fun q => by rw [nb b q] at e; cases e) (S.base b o e), fun a o e => (S.rep a o e).at (fun x hx => k a x (fun q => by rw [no a q] at e; cases e) hx) (tk_ow k nt), S.above, S.gens, S.os⟩
theorem Fm.ow {h h' : Heap} {ow : Addr → Prop} (F : Fm C σ h env ρ) (k : ∀ b o, ¬ ow b → h.get? b = some o → h'.get? b = some o) (nt : ∀ b o, ow b → h.get? b = some o → ¬ Imm o) (no : ∀ b, ow b → ¬ Own env b) : Fm C σ h' env ρ := by
  obtain ⟨f1, ⟨m, hm, f2⟩, f3, f5, f6, f7, f8⟩ := F
  have tk := tk_ow k nt
  obtain ⟨o, es, ep, ho, rest⟩ := hm
  refine ⟨f1, ⟨m, ⟨o, es, ep, k _ _ (fun q => no _ q (.inl rfl)) ho, rest⟩, fun x v hx hv => ?_⟩, f3, f5, fun x c hc => ?_, f7, f8⟩
  · obtain ⟨u, a, b⟩ := f2 x v hx hv
    exact ⟨u, a, b.mono tk⟩
  · obtain ⟨ov, a, b⟩ := f6 x c hc
    refine ⟨ov, isCell_at a fun o e => k _ _ (fun q => no _ q (.inr ⟨x, hc⟩)) e, fun v hv => ?_⟩
    obtain ⟨u, p, q⟩ := b v hv
    exact ⟨u, p, q.mono tk⟩
theorem EvoF.ow {σ0 : Store} {h0 h h' : Heap} {ow : Addr → Prop} (e : EvoF env σ0 h0 σ h) (k : ∀ b o, ¬ ow b → h.get? b = some o → h'.get? b = some o) (fr : ∀ b, ow b → h0.get? b = none) : EvoF env σ0 h0 σ h' := by
  refine ⟨fun b o q n w => (e.keep b o q n w).trans fun o' q' => .inl (k b o' (fun z => by rw [fr b z] at q; cases q) q'), e.dom, e.mono, fun a i n q => k a _ (fun z => by rw [fr a z] at q; cases q) (e.tup a i n q), fun b o q w => ?_⟩
  obtain ⟨o', q'⟩ := e.there b o q w
  exact ⟨o', k b o' (fun z => by rw [fr b z] at q; cases q) q'⟩

/-- the turns of a for -/
theorem for_turns {target : Expr} {it : Value} {body : List Stmt} {ow : Addr → Prop} {J : Nat → Heap → Prop} {ok : Store → Prop} {xs : List V} (W : Itr C A target it ow J ok xs) {σ0 : Store} {h0 : Heap}
    (I : Nat → Rho → Store → Prop) (Q : FV → Rho → Store → Prop)
    (fr : ∀ b, ow b → h0.get? b = none) (fro : ∀ b, ow b → ¬ Own env b) (frb : ∀ b, ow b → C.h₀.get? b = none)
    (turn : ∀ k ρ σ, I k ρ σ → ok σ ∧ match xs[k]? with
      | none => Q .next ρ σ
      | some x => Asg C A env target x ρ σ (fun ρ1 σ1 => Exs C A env body ρ1 σ1 (fun g ρ2 σ2 => match g with
          | .next | .cont => I (k + 1) ρ2 σ2
          | .brk => Q .next ρ2 σ2
          | .ret v => Q (.ret v) ρ2 σ2) (fun _ _ => False)) (fun _ _ => False)) :
    ∀ m k ρ σ s, xs.length - k = m → I k ρ σ → St C σ s → Fm C σ s.heap env ρ → EvoF env σ0 h0 σ s.heap → J k s.heap → (∀ b, ow b → σ b = none) →
      codeAny C.M A (.forLoop target it body [] env) (fun r s' => match r with | .ok f => SP C env σ0 h0 Q f s' | .error _ => False) s := by
  intro m
  induction m using Nat.strongRecOn with
  | ind m ih =>
  intro k ρ σ s hm hI S F e0 hJ no
  obtain ⟨hok, tn⟩ := turn k ρ σ hI
  refine codeAny_of_tree ?_
  show wpAny C.M _ ((forTurn target it body [] env).onRaise (fun x => do noteFrame x env; theTreesLotGoes x)) _ _ s
  rw [show A.under (.forLoop target it body [] env) = A from Around.under_of_weight (by rfl)]
  refine wpAny_noted ?_
  unfold forTurn
  refine wpAny_bind (wpAny_standAt (wpAny_bind (wpAny_onRaise ?_)))
  have nt : ∀ b o, ow b → s.heap.get? b = some o → ¬ Imm o := fun b o q => W.notTup k _ b o hJ q
  cases hx : xs[k]? with
  | none =>
    rw [hx] at tn
    refine W.done k σ s _ _ S hok hJ hx no fun h' tk kp => ?_
    refine wpAny_pure ⟨rfl, codeAny_of_tree ?_⟩
    show wpAny C.M _ (do return Fin.done (← (execs [] env).onRaise (fun x => do noteFrame x env; theTreesLotGoes x))) _ _ _
    refine wpAny_bind (wpAny_noted (wpAny_execs_nil (wpAny_pure ?_)))
    exact ⟨.next, ρ, σ, tn, .next, S.ow kp nt no frb, F.ow kp nt fro, e0.ow kp fr⟩
  | some x =>
    rw [hx] at tn
    have hk : k < xs.length := by
      have := List.getElem?_eq_some_iff.mp hx
      exact this.1
    refine W.more k σ s x _ _ S hok hJ hx no fun v h' tk rv kp nt' go => ?_
    refine wpAny_bind (go _ _ fun h'' tk' J' kp' => ?_)
    have kp2 : ∀ b o, ¬ ow b → s.heap.get? b = some o → h''.get? b = some o := fun b o q e => kp' b o q (kp b o q e)
    have S2 : St C σ { s with heap := h'', toks := tk' } := S.ow kp2 nt no frb
    have F2 : Fm C σ h'' env ρ := F.ow kp2 nt fro
    have rv2 : VR h'' v x := rv.mono (tk_ow kp' nt')
    refine wpAny_bind (wpAny_mono (tn { s with heap := h'', toks := tk' } v S2 F2 rv2) ?_ fun _ _ z => z.elim)
    rintro _ s3 ⟨ρ1, σ1, q1, S3, F3, e3⟩
    refine wpAny_bind (wpAny_mono (q1 s3 S3 F3) ?_ fun _ _ z => z.elim)
    rintro f s4 ⟨g, ρ2, σ2, q2, r2, S4, F4, e4⟩
    have e04 : EvoF env σ0 h0 σ2 s4.heap := ((e0.ow kp2 fr).trans e3).trans e4
    have al2 : ∀ b, ow b → ∃ o, h''.get? b = some o := fun b q => W.there _ _ b J' q
    have e24 : EvoF env σ h'' σ2 s4.heap := e3.trans e4
    have kpo : ∀ b o, ow b → h''.get? b = some o → s4.heap.get? b = some o := fun b o q e => (e24.keep b o e (no b q) (fro b q)).exact (W.notD _ _ b o J' q e)
    have no4 : ∀ b, ow b → σ2 b = none := fun b q => by
      cases z : σ2 b with
      | none => rfl
      | some o =>
        rcases e24.dom b o z with ⟨o', e'⟩ | e'
        · rw [no b q] at e'; cases e'
        · obtain ⟨o', e2⟩ := al2 b q
          rw [e2] at e'; cases e'
    have again' : I (k + 1) ρ2 σ2 → codeAny C.M A (.forLoop target it body [] env) (fun r s' => match r with | .ok f => SP C env σ0 h0 Q f s' | .error _ => False) s4 := fun hI' =>
      ih (xs.length - (k + 1)) (by (first | lia | omega)) (k + 1) ρ2 σ2 s4 rfl hI' S4 F4 e04 (W.frame _ _ _ J' e24.tup kpo) no4
    cases r2 with
    | next => exact wpAny_pure ⟨rfl, again' q2⟩
    | cont => exact wpAny_pure ⟨rfl, again' q2⟩
    | brk => exact wpAny_pure ⟨.next, ρ2, σ2, q2, .next, S4, F4, e04⟩
    | ret r => exact wpAny_pure ⟨_, ρ2, σ2, q2, .ret r, S4, F4, e04⟩

/-- the turns, item by item -/
def ForL (C : Cx) (A : Around) (env : Env) (target : Expr) (body : List Stmt) (ok : Store → Prop) (Q : FV → Rho → Store → Prop) : List V → Rho → Store → Prop
  | [], ρ, σ => Q .next ρ σ
  | x :: xs, ρ, σ => Asg C A env target x ρ σ (fun ρ1 σ1 => Exs C A env body ρ1 σ1 (fun g ρ2 σ2 => match g with
      | .next | .cont => ok σ2 ∧ ForL C A env target body ok Q xs ρ2 σ2
      | .brk => Q .next ρ2 σ2
      | .ret v => Q (.ret v) ρ2 σ2) (fun _ _ => False)) (fun _ _ => False)

theorem for_run {target : Expr} {it : Value} {body : List Stmt} {ow : Addr → Prop} {J : Nat → Heap → Prop} {ok : Store → Prop} {xs : List V} (W : Itr C A target it ow J ok xs) {σ0 : Store} {h0 : Heap} {Q : FV → Rho → Store → Prop}
    (fr : ∀ b, ow b → h0.get? b = none) (fro : ∀ b, ow b → ¬ Own env b) (frb : ∀ b, ow b → C.h₀.get? b = none) (no : ∀ b, ow b → σ b = none)
    (S : St C σ s) (F : Fm C σ s.heap env ρ) (e0 : EvoF env σ0 h0 σ s.heap) (hJ : J 0 s.heap) (hok : ok σ) (h : ForL C A env target body ok Q xs ρ σ) :
    codeAny C.M A (.forLoop target it body [] env) (fun r s' => match r with | .ok f => SP C env σ0 h0 Q f s' | .error _ => False) s := by
  refine for_turns W (fun k ρ σ => ok σ ∧ ForL C A env target body ok Q (xs.drop k) ρ σ) Q fr fro frb (fun k ρ σ hI => ⟨hI.1, ?_⟩) _ 0 ρ σ s rfl ⟨hok, by simpa using h⟩ S F e0 hJ no
  cases hx : xs[k]? with
  | none =>
    have : xs.drop k = [] := List.drop_eq_nil_of_le (List.getElem?_eq_none_iff.mp hx)
    have h2 := hI.2
    rw [this] at h2
    exact h2
  | some x =>
    obtain ⟨hk, rfl⟩ := List.getElem?_eq_some_iff.mp hx
    have h2 := hI.2
    rw [List.drop_eq_getElem_cons hk] at h2
    exact h2

/-- no tuple of its own to let go -/
theorem letGo_plain {target : Expr} {it : Addr} {v : Value} {o : Obj} {T : String} {Q : Unit → Shared → Prop} {E : XP} (e : s.heap.get? it = some o) (hc : o.cls = .type T)
    (hT : ["enumerate", "zip", "dict_itemiterator", "dict_reverseitemiterator", "odict_iterator", "itertools.zip_longest", "itertools.pairwise"].contains T = false) (h : Q () s) : wpAny C.M A (letOwnedTupleGo target (.ref it) v) Q E s := by
  have key : ∀ (v : Value), wpAny C.M A (do
      let (.ref r, .ref a) := ((Value.ref it, v) : Value × Value) | return
      let o ← load r
      match o.cls, o.data with
      | .type n, .fields vs =>
        if ["enumerate", "zip", "dict_itemiterator", "dict_reverseitemiterator", "odict_iterator", "itertools.zip_longest", "itertools.pairwise"].contains n && vs[0]? == some (rawInt a) then
          rule "for.unpacks-the-owned-tuple"
          updateField r 0 .none
      | _, _ => pure ()) Q E s := fun v => by
    cases v <;> try exact wpAny_pure h
    refine wpAny_bind (wpAny_load e ?_)
    rw [hc]
    cases o.data <;> try exact wpAny_pure h
    simp only [hT, Bool.false_and, Bool.false_eq_true, if_false]
    exact wpAny_pure h
  cases target <;> first | exact wpAny_pure h | exact key v

/- lists -/
theorem Itr.list {target : Expr} {it l : Addr} {xs : List V} (hh : A.handled = none) (hne : it ≠ l) :
    Itr C A target (.ref it) (fun b => b = it) (fun k h => h.IsListIter it l k) (fun σ => LstAt C σ l xs) xs where
  frame := fun k h h' ⟨o, e, r⟩ _ kp => ⟨o, kp it o rfl e, r⟩
  notTup := fun k h b o' ⟨o, e, c, _⟩ q z => by subst q; rw [e] at z; cases z; exact Imm.not (by rw [c]; simp) (by rw [c]; simp) (by rw [c]; simp)
  notD := fun k h b o' ⟨o, e, c, d⟩ q z es n w => by subst q; rw [e] at z; cases z; rw [d] at w; cases w
  there := fun k h b ⟨o, e, _⟩ q => by subst q; exact ⟨o, e⟩
  more := fun k σ s x Q X S hok hJ hx no hQ => by
    obtain ⟨items, hl, hr⟩ := hok.raw S
    obtain ⟨u, hu, ru⟩ := hr.get hx
    refine wpAny_pyNext_list_item hJ hl (by simpa using hu) fun h' J' sb => ?_
    have kp : ∀ b o, ¬ b = it → s.heap.get? b = some o → h'.get? b = some o := fun b o q e => (sb.2 b q).trans e
    have tk : TupKeep s.heap h' := tk_ow (ow := fun b => b = it) kp fun b o' q => by
      subst q
      obtain ⟨o, e, c, _⟩ := hJ
      intro z; rw [e] at z; cases z; exact Imm.not (by rw [c]; simp) (by rw [c]; simp) (by rw [c]; simp)
    refine hQ u h' s.toks (ru.mono tk) kp (fun b o' q z => ?_) (fun Q' X' hq => by
      obtain ⟨o, e, c, _⟩ := id J'
      exact letGo_plain (s := { s with heap := h' }) e c (by decide) (hq h' s.toks J' fun _ _ _ e => e))
    subst q
    obtain ⟨o, e, c, _⟩ := J'
    rw [e] at z; cases z; exact Imm.not (by rw [c]; simp) (by rw [c]; simp) (by rw [c]; simp)
  self := fun k s Q X hJ hq => wpAny_pyIter_listiter hJ hq
  done := fun k σ s Q X S hok hJ hx no hQ => by
    obtain ⟨items, hl, hr⟩ := hok.raw S
    have hn : items[k]? = none := by
      have h1 := List.getElem?_eq_none_iff.mp hx
      have h2 := hr.length
      simp only [Array.length_toList] at h2
      exact Array.getElem?_eq_none_iff.mpr (by (first | lia | omega))
    exact wpAny_pyNext_list_end hh hJ hl hn fun h' kp => hQ h' s.toks fun b o q e => kp b o q e

end

end Mine

set_option autoImplicit false
set_option linter.unusedVariables false
namespace Mine
open PySem PySem.W

section
variable {C : Cx} {A : Around} {env : Env} {ρ : Rho} {σ : Store} {X : XP} {s : Shared}

theorem Evo.ow {σ0 : Store} {h0 h h' : Heap} {ow : Addr → Prop} (e : Evo σ0 h0 σ h) (k : ∀ b o, ¬ ow b → h.get? b = some o → h'.get? b = some o) (fr : ∀ b, ow b → h0.get? b = none) : Evo σ0 h0 σ h' :=
  ⟨fun b o q n => (e.keep b o q n).trans fun o' q' => .inl (k b o' (fun z => by rw [fr b z] at q; cases q) q'), e.dom, e.mono, fun a i n q => k a _ (fun z => by rw [fr a z] at q; cases q) (e.tup a i n q)⟩

theorem plain_kept {h h' : Heap} {a : Addr} {items : Array Value} (x : h.PlainList a items) (k : ∀ o, h.get? a = some o → Kept h' a o) : h'.PlainList a items := by
  obtain ⟨n, e⟩ := x
  exact ⟨n, (k _ e).exact fun es n z => (by cases z)⟩
theorem Fm.less {h : Heap} {ρ' : Rho} (F : Fm C σ h env ρ) (k : ∀ x v, ρ'.get x = some v → ρ.get x = some v) : Fm C σ h env ρ' := by
  obtain ⟨f1, ⟨m, hm, f2⟩, f3, f5, f6, f7, f8⟩ := F
  refine ⟨f1, ⟨m, hm, fun x v hx hv => f2 x v hx (k x v hv)⟩, f3, f5, fun x c hc => ?_, f7, f8⟩
  obtain ⟨ov, a, b⟩ := f6 x c hc
  exact ⟨ov, a, fun v hv => b v (k x v hv)⟩

/-- the tests of a comprehension: none, or one -/
def Ifs (C : Cx) (A : Around) (env : Env) (ifs : List Expr) (ρ : Rho) (σ : Store) (Q : Bool → Store → Prop) (X : XP) : Prop :=
  match ifs with
  | [] => Q true σ
  | [c] => Tst C A env c ρ σ Q X
  | _ => False
theorem Ifs.run {ifs : List Expr} {Q : Bool → Store → Prop} (h : Ifs C A env ifs ρ σ Q X) (S : St C σ s) (F : Fm C σ s.heap env ρ) :
    wpAny C.M A (forIn ifs true fun c r => if r = true then do let ok ← isTrue c env (eval c env); pure (ForInStep.yield ok) else pure (ForInStep.yield r)) (TP C σ s.heap Q) X s := by
  match ifs, h with
  | [], h => exact wpAny_tests_nil (TP.pure S h)
  | [c], h => exact wpAny_tests_one (h s S F)

/-- the turns of a comprehension, item by item -/
def CmpL (C : Cx) (A : Around) (env : Env) (x : Str) (ifs : List Expr) (elt : Expr) (ok : Store → Prop) (ρ : Rho) (R : List V → Store → Prop) : List V → List V → Store → Prop
  | [], out, σ => R out σ
  | y :: ys, out, σ => Ifs C A env ifs (ρ.put x y) σ (fun b σ1 =>
      if b then Ev C A env elt (ρ.put x y) σ1 (fun z σ2 => out.length ≤ sizeLine ∧ ok σ2 ∧ CmpL C A env x ifs elt ok ρ R ys (out ++ [z]) σ2) (fun _ _ => False)
      else ok σ1 ∧ CmpL C A env x ifs elt ok ρ R ys out σ1) (fun _ _ => False)

theorem comp_turns {x : Str} {px pos : Pos} {elt iter : Expr} {ifs : List Expr} {scope : Scope} {it : Value} {ow : Addr → Prop} {J : Nat → Heap → Prop} {ok : Store → Prop} {xs : List V} {acc : Addr}
    (W : Itr C A (.Name x px) it ow J ok xs) {σ0 : Store} {h0 : Heap} {R : List V → Store → Prop} {RR : Result → Shared → Prop}
    (hx : env.kindOf x = some .local) (hxc : env.cells.lookup x = none) (hxr : ρ.get x = none)
    (fr : ∀ b, ow b → h0.get? b = none) (fra : h0.get? acc = none) (frl : h0.get? env.locals = none) (frb : ∀ b, ow b → C.h₀.get? b = none) (frba : C.h₀.get? acc = none)
    (nac : ¬ ow acc) (nal : acc ≠ env.locals) (nol : ¬ ow env.locals) (noo : ∀ b, ow b → ¬ Own env b) (nao : ¬ Own env acc)
    (hR : ∀ out σ s items, R out σ → St C σ s → Evo σ0 h0 σ s.heap → s.heap.PlainList acc items → VRs s.heap items.toList out → σ acc = none → (∃ m, s.heap.Ns env.locals m) → σ env.locals = none → RR (.ok .next) s) :
    ∀ m k out σ s items, xs.length - k = m → ok σ → CmpL C A env x ifs elt ok ρ R (xs.drop k) out σ → St C σ s → Fm C σ s.heap env ρ → Evo σ0 h0 σ s.heap → J k s.heap → (∀ b, ow b → σ b = none) →
      s.heap.PlainList acc items → VRs s.heap items.toList out → σ acc = none →
      codeAny C.M A (.compLoop (.ListComp elt [⟨.Name x px, iter, ifs, 0⟩] scope pos) 0 it (.ref acc) env) RR s := by
  intro m
  induction m using Nat.strongRecOn with
  | ind m ih =>
  intro k out σ s items hm hok hL S F e0 hJ no pl rl na
  have nt : ∀ b o, ow b → s.heap.get? b = some o → ¬ Imm o := fun b o q => W.notTup k _ b o hJ q
  have dn : ∀ (σ' : Store) (h h' : Heap), Evo σ h σ' h' → ∀ b o, h.get? b = some o → σ b = none → σ' b = none := fun σ' h h' e b o q n => by
    cases z : σ' b with
    | none => rfl
    | some o2 =>
      rcases e.dom b o2 z with ⟨o', e'⟩ | e'
      · rw [n] at e'; cases e'
      · rw [q] at e'; cases e'
  refine codeAny_of_tree ?_
  show wpAny C.M _ ((compTurn (.ListComp elt [⟨.Name x px, iter, ifs, 0⟩] scope pos) 0 it (.ref acc) env).onRaise (fun x => do noteFrame x env; theTreesLotGoes x)) _ _ s
  rw [show A.under (.compLoop (.ListComp elt [⟨.Name x px, iter, ifs, 0⟩] scope pos) 0 it (.ref acc) env) = A from Around.under_of_weight (by rfl)]
  refine wpAny_noted ?_
  rw [compTurn_list]
  refine wpAny_bind (wpAny_standAt (wpAny_bind ?_))
  cases hxk : xs[k]? with
  | none =>
    have hd : xs.drop k = [] := List.drop_eq_nil_of_le (List.getElem?_eq_none_iff.mp hxk)
    rw [hd] at hL
    refine W.done k σ s _ _ S hok hJ hxk no fun h' tk kp => ?_
    refine wpAny_pure ?_
    have S' : St C σ { s with heap := h', toks := tk } := S.ow kp nt no frb
    obtain ⟨m', hm', _⟩ := (F.ow kp nt noo).loc
    exact hR out σ _ items hL S' (e0.ow kp fr) (pl.at fun o e => kp _ _ nac e) (rl.mono (tk_ow kp nt)) na ⟨m', hm'⟩ F.locs
  | some y =>
    obtain ⟨hk, rfl⟩ := List.getElem?_eq_some_iff.mp hxk
    rw [List.drop_eq_getElem_cons hk] at hL
    refine W.more k σ s _ _ _ S hok hJ hxk no fun v h' tk rv kp nt' go => ?_
    refine wpAny_bind (go _ _ fun h'' tk' J' kp' => ?_)
    have kp2 : ∀ b o, ¬ ow b → s.heap.get? b = some o → h''.get? b = some o := fun b o q e => kp' b o q (kp b o q e)
    have S2 : St C σ { s with heap := h'', toks := tk' } := S.ow kp2 nt no frb
    have F2 : Fm C σ h'' env ρ := F.ow kp2 nt noo
    have rv2 : VR h'' v xs[k] := rv.mono (tk_ow kp' nt')
    have e2 : Evo σ0 h0 σ h'' := e0.ow kp2 fr
    have pl2 : h''.PlainList acc items := pl.at fun o e => kp2 _ _ nac e
    have rl2 : VRs h'' items.toList out := rl.mono (tk_ow kp2 nt)
    obtain ⟨m0, hm0, fm0⟩ := F2.loc
    refine wpAny_bind (wpAny_assign_Name (wpAny_storeName_local (s := { s with heap := h'', toks := tk' }) hx hm0 (fun h3 hn3 hs3 => ?_) (by rw [F2.fn]; rfl)))
    obtain ⟨S3, F3, e3⟩ := Fm.storeLocal (h := h'') (t := tk' + 1) (s := { s with heap := h'', toks := tk' }) S2 F2 hx hm0 fm0 hn3 hs3 rv2 hxc
    have e03 : Evo σ0 h0 σ h3 := e2.ow (ow := fun b => b = env.locals) (fun b o q e => (hs3.2 b q).trans e) (fun b q => q ▸ frl)
    have J3 : J (k + 1) h3 := W.frame _ _ _ J' e3.tup fun b o q e => (hs3.2 b fun z => nol (z ▸ q)).trans e
    have pl3 : h3.PlainList acc items := pl2.at fun o e => (hs3.2 _ nal).trans e
    have rl3 : VRs h3 items.toList out := rl2.mono e3.tup
    have nx : ∀ (s4 : Shared) (σ4 : Store) (out' : List V) (items' : Array Value), ok σ4 → CmpL C A env x ifs elt ok ρ R (xs.drop (k + 1)) out' σ4 → St C σ4 s4 → Fm C σ4 s4.heap env (ρ.put x xs[k]) → Evo σ0 h0 σ4 s4.heap → J (k + 1) s4.heap →
        (∀ b, ow b → σ4 b = none) → s4.heap.PlainList acc items' → VRs s4.heap items'.toList out' → σ4 acc = none →
        codeAny C.M A (.compLoop (.ListComp elt [⟨.Name x px, iter, ifs, 0⟩] scope pos) 0 it (.ref acc) env) RR s4 := fun s4 σ4 out' items' hok4 hL4 S4 F4 e4 J4 no4 pl4 rl4 na4 =>
      ih (xs.length - (k + 1)) (by (first | lia | omega)) (k + 1) out' σ4 s4 items' rfl hok4 hL4 S4 (F4.less fun z u hz => by
        rw [Rho.get_put, if_neg (fun q => by rw [q, hxr] at hz; cases hz)]; exact hz) e4 J4 no4 pl4 rl4 na4
    refine wpAny_bind (wpAny_mono (Ifs.run hL S3 F3) ?_ fun _ _ z => z.elim)
    rintro b s4 ⟨σ4, q4, S4, e4⟩
    have no4 : ∀ b, ow b → σ4 b = none := fun b q => by
      obtain ⟨o', eo⟩ := W.there _ _ b J3 q
      exact dn σ4 _ _ e4 b o' eo (no b q)
    have na4 : σ4 acc = none := by obtain ⟨n, eo⟩ := pl3; exact dn σ4 _ _ e4 acc _ eo na
    have J4 : J (k + 1) s4.heap := W.frame _ _ _ J3 e4.tup fun b o q e => (e4.keep b o e (no b q)).exact (W.notD _ _ b o J3 q e)
    have pl4 : s4.heap.PlainList acc items := plain_kept pl3 fun o e => e4.keep _ _ e na
    have rl4 := rl3.mono e4.tup
    have F4 := F3.evo e4
    cases b with
    | false =>
      simp only [Bool.false_eq_true, if_false] at q4 ⊢
      exact wpAny_pure ⟨rfl, nx s4 σ4 out items q4.1 q4.2 S4 F4 (e03.trans e4) J4 no4 pl4 rl4 na4⟩
    | true =>
      simp only [if_true] at q4 ⊢
      refine wpAny_bind (wpAny_bind (wpAny_mono (q4 s4 S4 F4) ?_ fun _ _ z => z.elim))
      rintro u s5 ⟨z, σ5, ⟨hz, hok5, q5⟩, r5, S5, e5⟩
      have dn5 : ∀ b o, s4.heap.get? b = some o → σ4 b = none → σ5 b = none := fun b o q n => by
        cases z : σ5 b with
        | none => rfl
        | some o2 =>
          rcases e5.dom b o2 z with ⟨o', e'⟩ | e'
          · rw [n] at e'; cases e'
          · rw [q] at e'; cases e'
      have no5 : ∀ b, ow b → σ5 b = none := fun b q => by
        obtain ⟨o', eo⟩ := W.there _ _ b J4 q
        exact dn5 b o' eo (no4 b q)
      have na5 : σ5 acc = none := by obtain ⟨n, eo⟩ := pl4; exact dn5 acc _ eo na4
      have J5 : J (k + 1) s5.heap := W.frame _ _ _ J4 e5.tup fun b o q e => (e5.keep b o e (no4 b q)).exact (W.notD _ _ b o J4 q e)
      have pl5 : s5.heap.PlainList acc items := plain_kept pl4 fun o e => e5.keep _ _ e na4
      have rl5 := rl4.mono e5.tup
      have F5 := F4.evo e5
      refine wpAny_bind (wpAny_list_append_plain pl5 (fun h6 pl6 sb6 => ?_) (by have := rl5.length; simp only [Array.length_toList] at this; (first | lia | omega)))
      have nt6 : ∀ b o, b = acc → s5.heap.get? b = some o → ¬ Imm o := fun b o q => by
        subst q
        obtain ⟨n, eo⟩ := pl5
        intro z; rw [eo] at z; cases z; exact Imm.not (by simp) (by simp) (by simp)
      have kp6 : ∀ b o, ¬ b = acc → s5.heap.get? b = some o → h6.get? b = some o := fun b o q e => (sb6.2 b q).trans e
      have S6 : St C σ5 { s5 with heap := h6, toks := s5.toks } := S5.ow (ow := fun b => b = acc) kp6 nt6 (fun b q => q ▸ na5) (fun b q => q ▸ frba)
      have F6 : Fm C σ5 h6 env (ρ.put x xs[k]) := F5.ow (ow := fun b => b = acc) kp6 nt6 (fun b q => q ▸ nao)
      have tk6 : TupKeep s5.heap h6 := tk_ow (ow := fun b => b = acc) kp6 nt6
      refine wpAny_pure (wpAny_pure ⟨rfl, nx _ σ5 (out ++ [z]) (items.push u) hok5 q5 S6 F6 (((e03.trans e4).trans e5).ow (ow := fun b => b = acc) kp6 (fun b q => q ▸ fra)) ?_ no5 pl6 ?_ na5⟩)
      · exact W.frame _ _ _ J5 tk6 fun b o q e => kp6 b o (fun z => nac (z ▸ q)) e
      · simp only [Array.toList_push]
        exact (rl5.mono tk6).append (.cons (r5.mono tk6) .nil)
end

end Mine

set_option autoImplicit false
set_option linter.unusedVariables false
namespace Mine
open PySem PySem.W

section
variable {C : Cx} {A : Around} {env : Env} {ρ : Rho} {σ : Store} {X : XP} {s : Shared}

/-- what an iterator's making gives -/
def SrcP (C : Cx) (A : Around) (target : Expr) (σ : Store) (h : Heap) (Q : List V → (Store → Prop) → Store → Prop) (it : Value) (s2 : Shared) : Prop :=
  ∃ xs ok σ' ow J, Q xs ok σ' ∧ Itr C A target it ow J ok xs ∧ ok σ' ∧ St C σ' s2 ∧ Evo σ h σ' s2.heap ∧ (∀ b, ow b → h.get? b = none ∧ σ' b = none) ∧ J 0 s2.heap
def Src (C : Cx) (A : Around) (env : Env) (target iter : Expr) (ρ : Rho) (σ : Store) (Q : List V → (Store → Prop) → Store → Prop) (X : XP) : Prop :=
  ∀ s, St C σ s → Fm C σ s.heap env ρ → wpAny C.M A (eval iter env) (fun x s1 => wpAny C.M A (pyIter x) (SrcP C A target σ s.heap Q) X s1) X s

theorem Fm.own_there {h : Heap} (F : Fm C σ h env ρ) {b : Addr} (w : Own env b) : ∃ o, h.get? b = some o := by
  rcases w with rfl | ⟨x, e⟩
  · obtain ⟨m, ⟨o, _, _, ho, _⟩, _⟩ := F.loc
    exact ⟨o, ho⟩
  · obtain ⟨ov, ⟨o, ho, _⟩, _⟩ := F.cell x b e
    exact ⟨o, ho⟩

theorem Ex.for {target iter : Expr} {body : List Stmt} {pos : Pos} {Q : FV → Rho → Store → Prop}
    (h : Src C A env target iter ρ σ (fun xs ok σ1 => ForL C A env target body ok Q xs ρ σ1) X)
    (hs : ∀ x, foldedSetIterable iter env x = pure x := by intro _; kernel_rfl) : Ex C A env (.For target iter body [] pos) ρ σ Q X := by
  intro s S F
  refine wpAny_For (wpAny_mono (h s S F) (fun x s1 h1 => wpAny_mono h1 ?_ fun _ _ z => z) fun _ _ z => z) hs
  rintro it s2 ⟨xs, ok, σ', ow, J, q, W, hok, S2, e2, fr, hJ⟩
  refine codeAny_mono (for_run (σ0 := σ) (h0 := s.heap) W (fun b w => (fr b w).1) (fun b w z => ?_) (fun b w => ?_) (fun b w => (fr b w).2) S2 (F.evo e2) (e2.evoF F.own) hJ hok q) ?_
  · obtain ⟨o, e⟩ := F.own_there z
    rw [(fr b w).1] at e; cases e
  · cases z : C.h₀.get? b with
    | none => rfl
    | some o => have := S.base _ _ z; rw [(fr b w).1] at this; cases this
  · rintro (e | f) s' z
    · exact z.elim
    · exact z

/- sources -/
/-- iterating over a value gives these items -/
def ItV (C : Cx) (A : Around) (target : Expr) (x : V) (σ : Store) (xs : List V) (ok : Store → Prop) : Prop :=
  ok σ ∧ ∀ s v (Q : Value → Shared → Prop) (X : XP), St C σ s → VR s.heap v x → (∀ it ow J h' tk, Itr C A target it ow J ok xs → (∀ b o, s.heap.get? b = some o → h'.get? b = some o) → (∀ b, ow b → s.heap.objs.size ≤ b) → J 0 h' →
    Q it { s with heap := h', toks := tk }) → wpAny C.M A (pyIter v) Q X s

theorem St.fresh' (S : St C σ s) {b : Addr} (hb : s.heap.objs.size ≤ b) : σ b = none := by
  cases q : σ b with
  | none => rfl
  | some o =>
    obtain ⟨y, hy, _⟩ := (S.rep _ _ q).isSome
    exact absurd (Heap.lt_size hy) (Nat.not_lt.mpr hb)
theorem get?_fresh' {h : Heap} {b : Addr} (hb : h.objs.size ≤ b) : h.get? b = none := by
  cases q : h.get? b with
  | none => rfl
  | some o => exact absurd (Heap.lt_size q) (Nat.not_lt.mpr hb)
theorem Evo.fresh {σ' : Store} {h h' : Heap} {b : Addr} (S : St C σ' s) (e : Evo σ h σ' s.heap) (hb : s.heap.objs.size ≤ b) : h.get? b = none := by
  cases q : h.get? b with
  | none => rfl
  | some o =>
    have f := get?_fresh' hb
    cases z : σ b with
    | none =>
      obtain ⟨o', z'⟩ := (e.keep _ _ q z).got
      rw [z'] at f; cases f
    | some o' =>
      obtain ⟨o'', e''⟩ := e.mono _ _ z
      rw [S.fresh' hb] at e''; cases e''

theorem Src.of {target iter : Expr} {Q : List V → (Store → Prop) → Store → Prop} (h : Ev C A env iter ρ σ (fun x σ1 => ∃ xs ok, ItV C A target x σ1 xs ok ∧ Q xs ok σ1) X) : Src C A env target iter ρ σ Q X := by
  intro s S F
  refine wpAny_mono (h s S F) ?_ fun _ _ z => z
  rintro v s1 ⟨x, σ1, ⟨xs, ok, ⟨hok, hi⟩, q⟩, r1, S1, e1⟩
  refine hi s1 v _ _ S1 r1 fun it ow J h' tk W kp fr hJ => ?_
  exact ⟨xs, ok, σ1, ow, J, q, W, hok, S1.ext kp, e1.trans (.ext kp), fun b w => ⟨Evo.fresh (h' := s1.heap) S1 e1 (fr b w), S1.fresh' (fr b w)⟩, hJ⟩

theorem ItV.list {target : Expr} {l : Addr} {xs : List V} (hh : A.handled = none) (hl : LstAt C σ l xs) : ItV C A target (.ref l) σ xs (fun σ => LstAt C σ l xs) := by
  refine ⟨hl, fun s v Q X S r hQ => ?_⟩
  cases r
  obtain ⟨items, pl, hr⟩ := hl.raw S
  refine wpAny_pyIter_list pl ?_
  have hlt : l < s.heap.objs.size := by obtain ⟨o, e, _⟩ := pl; exact Heap.lt_size e
  exact hQ _ _ _ _ s.toks (Itr.list hh (Nat.ne_of_gt hlt)) (fun b o e => Heap.get?_push_of_some _ e) (fun b w => w ▸ Nat.le_refl _) ⟨_, Heap.get?_push_size _ rfl, rfl, rfl⟩

theorem Itr.tup {target : Expr} {it t : Addr} {items : Array Value} {xs : List V} {n : Nat} (hh : A.handled = none) (hne : it ≠ t) :
    Itr C A target (.ref it) (fun b => b = it) (fun k h => h.IsTupleIter it t k ∧ h.get? t = some (tupObj items n) ∧ VRs h items.toList xs) (fun _ => True) xs where
  frame := fun k h h' ⟨⟨o, e, r⟩, a, b⟩ tk kp => ⟨⟨o, kp it o rfl e, r⟩, tk _ _ (.tup _ _) a, b.mono tk⟩
  notTup := fun k h b o' ⟨⟨o, e, c, _⟩, _⟩ q z => by subst q; rw [e] at z; cases z; exact Imm.not (by rw [c]; simp) (by rw [c]; simp) (by rw [c]; simp)
  notD := fun k h b o' ⟨⟨o, e, c, d⟩, _⟩ q z es n w => by subst q; rw [e] at z; cases z; rw [d] at w; cases w
  there := fun k h b ⟨⟨o, e, _⟩, _⟩ q => by subst q; exact ⟨o, e⟩
  more := fun k σ s x Q X S hok ⟨hJ, ha, hr⟩ hx no hQ => by
    obtain ⟨u, hu, ru⟩ := hr.get hx
    have it' : s.heap.IsTuple t items := ⟨_, ha, rfl, n, rfl⟩
    refine wpAny_pyNext_tuple_item hJ it' (by simpa using hu) fun h' J' sb => ?_
    have kp : ∀ b o, ¬ b = it → s.heap.get? b = some o → h'.get? b = some o := fun b o q e => (sb.2 b q).trans e
    have tk : TupKeep s.heap h' := tk_ow (ow := fun b => b = it) kp fun b o' q => by
      subst q
      obtain ⟨o, e, c, _⟩ := hJ
      intro z; rw [e] at z; cases z; exact Imm.not (by rw [c]; simp) (by rw [c]; simp) (by rw [c]; simp)
    refine hQ u h' s.toks (ru.mono tk) kp (fun b o' q z => ?_) (fun Q' X' hq => by
      obtain ⟨o, e, c, _⟩ := id J'
      exact letGo_plain (s := { s with heap := h' }) e c (by decide) (hq h' s.toks ⟨J', tk _ _ (.tup _ _) ha, hr.mono tk⟩ fun _ _ _ e => e))
    subst q
    obtain ⟨o, e, c, _⟩ := J'
    rw [e] at z; cases z; exact Imm.not (by rw [c]; simp) (by rw [c]; simp) (by rw [c]; simp)
  self := fun k s Q X hJ hq => wpAny_pyIter_tupleiter hJ.1 hq
  done := fun k σ s Q X S hok ⟨hJ, ha, hr⟩ hx no hQ => by
    have hn : items[k]? = none := by
      have h1 := List.getElem?_eq_none_iff.mp hx
      have h2 := hr.length
      simp only [Array.length_toList] at h2
      exact Array.getElem?_eq_none_iff.mpr (by (first | lia | omega))
    exact wpAny_pyNext_tuple_end hh hJ ⟨_, ha, rfl, n, rfl⟩ hn fun h' kp => hQ h' s.toks fun b o q e => kp b o q e
theorem ItV.tup {target : Expr} {xs : List V} (hh : A.handled = none) : ItV C A target (.tup xs) σ xs (fun _ => True) := by
  refine ⟨trivial, fun s v Q X S r hQ => ?_⟩
  cases r with
  | @tup a items n _ ha hr =>
    refine wpAny_pyIter_tuple (items := items) ⟨_, ha, rfl, n, rfl⟩ ?_
    have hlt : a < s.heap.objs.size := Heap.lt_size ha
    exact hQ _ _ _ _ s.toks (Itr.tup (t := a) (items := items) (n := n) hh (Nat.ne_of_gt hlt)) (fun b o e => Heap.get?_push_of_some _ e) (fun b w => w ▸ Nat.le_refl _) ⟨⟨_, Heap.get?_push_size _ rfl, rfl, rfl⟩, Heap.get?_push_of_some _ ha, hr.push⟩

def irange (a b : Int) : List V := (List.range (b - a).toNat).map fun (i : Nat) => V.int (a + (i : Int))
theorem Itr.rng {target : Expr} {it : Addr} {a b : Int} (hh : A.handled = none) :
    Itr C A target (.ref it) (fun b => b = it) (fun k h => IsRangeIter h it (a + k) (((b - a).toNat : Int) - k) 1) (fun _ => True) (irange a b) where
  frame := fun k h h' e _ kp => kp it _ rfl e
  notTup := fun k h b o' e q z => by subst q; rw [e] at z; cases z; exact Imm.not (by simp) (by simp) (by simp)
  notD := fun k h b o' e q z es n w => by subst q; rw [e] at z; cases z; cases w
  there := fun k h b e q => by subst q; exact ⟨_, e⟩
  more := fun k σ s x Q X S hok hJ hx no hQ => by
    obtain ⟨hk, rfl⟩ := List.getElem?_eq_some_iff.mp hx
    have hk' : k < (b - a).toNat := by simpa [irange] using hk
    refine wpAny_pyNext_range_item hJ (by (first | lia | omega)) fun h' J' sb => ?_
    refine hQ _ h' (s.toks + 1) ?_ (fun b o q e => (sb.2 b q).trans e) (fun b o' q z => ?_) (fun Q' X' hq => by
      exact letGo_plain (s := { s with heap := h', toks := s.toks + 1 }) J' rfl (by decide) (hq h' (s.toks + 1) (by
        have e1 : a + (k : Int) + 1 = a + ((k + 1 : Nat) : Int) := by (first | lia | omega)
        have e2 : ((b - a).toNat : Int) - k - 1 = ((b - a).toNat : Int) - ((k + 1 : Nat) : Int) := by (first | lia | omega)
        rw [e1, e2] at J'; exact J') fun _ _ _ e => e))
    · simp only [irange, List.getElem_map, List.getElem_range]; exact .int _ _
    · subst q; rw [J'] at z; cases z; exact Imm.not (by simp) (by simp) (by simp)
  self := fun k s Q X hJ hq => wpAny_pyIter_rangeiter hJ hq
  done := fun k σ s Q X S hok hJ hx no hQ => by
    have h1 := List.getElem?_eq_none_iff.mp hx
    simp only [irange, List.length_map, List.length_range] at h1
    exact wpAny_pyNext_range_end hh hJ (by (first | lia | omega)) fun h' kp => hQ h' s.toks fun b o q e => kp b o q e
theorem ItV.rng {target : Expr} {a b : Int} (hh : A.handled = none) (ha : -(2 ^ 62) ≤ a) (ha' : a < 2 ^ 62) (hb : -(2 ^ 62) ≤ b) (hb' : b < 2 ^ 62) : ItV C A target (.rng a b) σ (irange a b) (fun _ => True) := by
  refine ⟨trivial, fun s v Q X S r hQ => ?_⟩
  cases r with
  | rng hr =>
    refine wpAny_pyIter_range hr (small_one ha ha' hb hb') ?_
    refine hQ _ _ _ _ s.toks (Itr.rng (a := a) (b := b) hh) (fun b o e => Heap.get?_push_of_some _ e) (fun b w => w ▸ Nat.le_refl _) ?_
    have e2 : Builtin.Range.rangeSize a b 1 = ((b - a).toNat : Int) := by rw [rangeSize_one]; split <;> (first | lia | omega)
    rw [e2]
    simpa using Heap.get?_push_size s.heap (o := { cls := .type "range_iterator", data := .fields #[rawInt a, rawInt ((b - a).toNat : Int), rawInt 1] }) rfl
end

end Mine

set_option autoImplicit false
set_option linter.unusedVariables false
namespace Mine
open PySem PySem.W

/-- the cells that a comprehension takes along -/
def clOf (cells : List (Str × Addr)) : List (Str × NameKind) → List (Str × Addr) → List (Str × Addr)
  | [], acc => acc
  | (n, k) :: r, acc => if k == .free then clOf cells r ((n, (cells.lookup n).getD 0) :: acc) else clOf cells r acc

theorem closure_go {env : Env} : ∀ (names : List (Str × NameKind)) (acc : List (Str × Addr)), (names.all fun p => p.2 != .free || (env.cells.lookup p.1).isSome) = true →
    (forIn names acc fun (x : Str × NameKind) (r : List (Str × Addr)) => (if x.2 == NameKind.free then (do let c ← cellOf env x.1; pure (ForInStep.yield ((x.1, c) :: r))) else pure (ForInStep.yield r) : Sem (ForInStep (List (Str × Addr))))) = pure (clOf env.cells names acc)
  | [], acc, _ => rfl
  | (n, k) :: r, acc, h => by
    simp only [List.all_cons, Bool.and_eq_true] at h
    rw [List.forIn_cons]
    unfold clOf
    by_cases q : (k == .free) = true
    · have hk : k = .free := by cases k <;> first | rfl | cases q
      subst hk
      have h1 : (env.cells.lookup n).isSome = true := by simpa using h.1
      obtain ⟨c, hc⟩ := Option.isSome_iff_exists.mp h1
      have e : cellOf env n = pure c := by unfold cellOf; rw [hc]
      simp only [q, if_true, e, pure_bind, hc, Option.getD_some]
      exact closure_go r _ h.2
    · simp only [q, if_false, pure_bind]
      exact closure_go r _ h.2
theorem closureFor_mine {env : Env} {scope : Scope} (h : (scope.names.all fun p => p.2 != .free || (env.cells.lookup p.1).isSome) = true) : closureFor scope env = pure (clOf env.cells scope.names []) := by
  unfold closureFor
  have := closure_go (env := env) scope.names [] h
  simp only [bind_pure]
  exact this

theorem clOf_mem {cells : List (Str × Addr)} : ∀ {names : List (Str × NameKind)} {acc : List (Str × Addr)} {x : Str} {c : Addr}, (x, c) ∈ clOf cells names acc → (x, c) ∈ acc ∨ ((x, NameKind.free) ∈ names ∧ c = (cells.lookup x).getD 0)
  | [], _, _, _, h => .inl h
  | (n, k) :: r, acc, x, c, h => by
    unfold clOf at h
    split at h
    · rename_i q
      have hk : k = .free := by cases k <;> first | rfl | cases q
      subst hk
      rcases clOf_mem h with z | ⟨z, e⟩
      · rcases List.mem_cons.mp z with z | z
        · cases z; exact .inr ⟨.head _, rfl⟩
        · exact .inl z
      · exact .inr ⟨.tail _ z, e⟩
    · rcases clOf_mem h with z | ⟨z, e⟩
      · exact .inl z
      · exact .inr ⟨.tail _ z, e⟩

/-- the names that a comprehension takes along, with their values -/
inductive Capt (ρ : Rho) : List (Str × NameKind) → Rho → Prop
  | nil : Capt ρ [] []
  | skip {n : Str} {k : NameKind} {r : List (Str × NameKind)} {ρc : Rho} : k ≠ .free → Capt ρ r ρc → Capt ρ ((n, k) :: r) ρc
  | take {n : Str} {v : V} {r : List (Str × NameKind)} {ρc : Rho} : ρ.get n = some v → Capt ρ r ρc → Capt ρ ((n, .free) :: r) ((n, v) :: ρc)
theorem Capt.get {ρ : Rho} {x : Str} {v : V} {names : List (Str × NameKind)} {ρc : Rho} (z : Capt ρ names ρc) : ρc.get x = some v → ρ.get x = some v ∧ (x, NameKind.free) ∈ names := by
  induction z with
  | nil => intro h; cases h
  | skip _ _ ih => exact fun h => ⟨(ih h).1, .tail _ (ih h).2⟩
  | @take n u _ ρc e c ih =>
    intro h
    have h' : (if x = n then some u else Rho.get ρc x) = some v := h
    by_cases q : x = n
    · subst q; rw [if_pos rfl] at h'; cases h'; exact ⟨e, .head _⟩
    · rw [if_neg q] at h'
      exact ⟨(ih h').1, .tail _ (ih h').2⟩

def compOk (scope : Scope) : Bool := scope.names.all fun p => p.2 != .cell && (p.2 != .free || scope.names.lookup p.1 == some .free) && (p.2 != .local || scope.names.lookup p.1 == some .local)

theorem lookup_map_kind {g : Str → NameKind → NameKind} {x : Str} : ∀ (names : List (Str × NameKind)), (names.map fun (n, k) => (n, g n k)).lookup x = (names.lookup x).map (g x)
  | [] => rfl
  | (n, k) :: r => by
    simp only [List.map_cons, List.lookup_cons]
    cases q : x == n with
    | true => rw [beq_iff_eq.mp q]; rfl
    | false => exact lookup_map_kind r
theorem relabel_lookup {scope : Scope} {env : Env} {x : Str} : (relabel scope env).names.lookup x = (scope.names.lookup x).map fun k => if (k == .free && env.scope.kind == .function && env.kindOf x == some .cell) then .cell else k := by
  have e : (relabel scope env).names = scope.names.map fun (n, k) => (n, (fun (n : Str) (k : NameKind) => if (k == .free && env.scope.kind == .function && env.kindOf n == some .cell) then NameKind.cell else k) n k) := by
    unfold relabel
    refine List.map_congr_left fun p _ => ?_
    obtain ⟨n, k⟩ := p
    dsimp only
    split <;> rfl
  rw [e]
  exact lookup_map_kind (g := fun n k => if (k == .free && env.scope.kind == .function && env.kindOf n == some .cell) then NameKind.cell else k) scope.names

section
variable {C : Cx} {A : Around} {env : Env} {ρ : Rho} {σ : Store} {X : XP} {s : Shared}

theorem St.adopt {a : Addr} {o : O} {σ0 : Store} {h0 : Heap} (S : St C σ s) (r : Rep C s.heap a o) (hn : C.n₀ ≤ a) (e : Evo σ0 h0 σ s.heap) (hf : h0.get? a = none) : St C (σ.upd a o) s ∧ Evo σ0 h0 (σ.upd a o) s.heap := by
  refine ⟨⟨S.base, fun b x hx => ?_, fun b x hx => ?_, S.gens, S.os⟩, e.keep, fun b x hx => ?_, fun b x hx => ?_, e.tup⟩
  · by_cases q : b = a
    · subst q; rw [Store.upd_self] at hx; cases hx; exact r
    · rw [Store.upd_ne _ _ q] at hx; exact S.rep b x hx
  · by_cases q : b = a
    · subst q; exact ⟨S.baseFresh hn, .inl hn⟩
    · rw [Store.upd_ne _ _ q] at hx; exact S.above b x hx
  · by_cases q : b = a
    · subst q; exact .inr hf
    · rw [Store.upd_ne _ _ q] at hx; exact e.dom b x hx
  · obtain ⟨o', h'⟩ := e.mono b x hx
    by_cases q : b = a
    · subst q; exact ⟨_, Store.upd_self ..⟩
    · exact ⟨o', by rw [Store.upd_ne _ _ q]; exact h'⟩

/-- a comprehension, whatever is done with its list -/
theorem comp_run {x : Str} {px pos : Pos} {elt iter : Expr} {ifs : List Expr} {scope : Scope} {ρc : Rho} {use : Option (Value → Sem Unit)} {Qr : Value → Shared → Prop} {R : List V → Store → Prop}
    (hfree : (scope.names.all fun p => p.2 != .free || (env.cells.lookup p.1).isSome) = true) (hck : compOk scope = true) (hk : scope.kind = .function) (hx : scope.names.lookup x = some .local) (cap : Capt ρ scope.names ρc)
    (hs : ∀ x, foldedSetIterable iter env x = pure x) (S : St C σ s) (F : Fm C σ s.heap env ρ)
    (h : Src C A env (.Name x px) iter ρ σ (fun xs ok σ1 => ∀ L, CmpL C A (compEnvC scope (clOf env.cells scope.names []) L env) x ifs elt ok ρc R xs [] σ1) X)
    (fin : ∀ acc L σ2 s2 out items, R out σ2 → St C σ2 s2 → Evo σ s.heap σ2 s2.heap → s2.heap.PlainList acc items → VRs s2.heap items.toList out → σ2 acc = none → (∃ m, s2.heap.Ns L m) → σ2 L = none → C.n₀ ≤ acc → C.n₀ ≤ L → acc ≠ L → s.heap.get? acc = none → s.heap.get? L = none →
      compPost C.M A X use Qr (.ref acc) L (.ok .next) s2) :
    wpAny C.M A (comprehension (.ListComp elt [⟨.Name x px, iter, ifs, 0⟩] scope pos) scope env (firstIterPos [⟨.Name x px, iter, ifs, 0⟩] pos) (newList []) false (eval iter env) use) Qr X s := by
  have names_of : ∀ p ∈ scope.names, p.2 ≠ .cell ∧ (p.2 = .free → scope.names.lookup p.1 = some .free) ∧ (p.2 = .local → scope.names.lookup p.1 = some .local) := fun p hp => by
    have := List.all_eq_true.mp hck p hp
    simp only [Bool.and_eq_true, bne_iff_ne, ne_eq, Bool.or_eq_true, beq_iff_eq] at this
    refine ⟨this.1.1, fun e => ?_, fun e => ?_⟩
    · rcases this.1.2 with z | z
      · exact absurd e z
      · exact z
    · rcases this.2 with z | z
      · exact absurd e z
      · exact z
  refine wpAny_comprehension_free (cl := clOf env.cells scope.names []) rfl hs (closureFor_mine hfree) hk (fun p hp e => (names_of p hp).2.2 e) ?_
  refine wpAny_mono (h s S F) (fun v s1 h1 => wpAny_mono h1 ?_ fun _ _ z => z) fun _ _ z => z
  rintro it s2 ⟨xs, ok, σ', ow, J, q, W, hok, S2, e2, fr, hJ⟩
  refine wpAny_newObj_type (wpAny_newFunctionEnv (fun p hp => (names_of p hp).1) (by intro y hy; simp at hy) (fun h₁ hns₁ hsb₁ => ?_) hk)
  dsimp only at hns₁ hsb₁ ⊢
  generalize hH2 : s2.heap.push { cls := .type "list", dict := none, data := .seq ([] : List Value).toArray } = H2 at hns₁ hsb₁ ⊢
  have hC : H2.objs.size = s2.heap.objs.size + 1 := by rw [← hH2, push_size]
  have hDC : s2.heap.objs.size ≠ H2.objs.size := by rw [hC]; exact Nat.ne_of_lt (Nat.lt_succ_self _)
  have old : ∀ b o, s2.heap.get? b = some o → h₁.get? b = some o := fun b o e =>
    hsb₁.extBut b o (by rw [hC]; exact Nat.ne_of_lt (Nat.lt_succ_of_lt (Heap.lt_size e))) (Heap.get?_push_of_some _ (hH2 ▸ Heap.get?_push_of_some _ e))
  have hacc : h₁.PlainList s2.heap.objs.size #[] := ⟨_, hsb₁.extBut _ _ hDC (Heap.get?_push_of_some _ (hH2 ▸ Heap.get?_push_size _ rfl))⟩
  have F2 := F.evo e2
  have e12 : Evo σ' s2.heap σ' h₁ := .ext old
  have fresh2 : ∀ b, s2.heap.objs.size ≤ b → s.heap.get? b = none := fun b hb => Evo.fresh (h' := s2.heap) S2 e2 hb
  have hLle : s2.heap.objs.size ≤ H2.objs.size := by rw [hC]; exact Nat.le_succ _
  have cl_of : ∀ y c, (clOf env.cells scope.names []).lookup y = some c → env.cells.lookup y = some c ∧ scope.names.lookup y = some .free := fun y c hy => by
    rcases clOf_mem (mem_of_lookup hy) with z | ⟨z, e⟩
    · cases z
    · have h1 := List.all_eq_true.mp hfree _ z
      have h2 : (env.cells.lookup y).isSome = true := by simpa using h1
      obtain ⟨c', hc'⟩ := Option.isSome_iff_exists.mp h2
      rw [hc'] at e
      exact ⟨by rw [hc', e]; rfl, (names_of _ z).2.1 rfl⟩
  have S3 : St C σ' { s2 with heap := h₁, toks := s2.toks } := S2.ext old
  have F3 : Fm C σ' h₁ (compEnvC scope (clOf env.cells scope.names []) H2.objs.size env) ρc := by
    refine ⟨by show (relabel scope env).kind = _; exact hk, ⟨_, hns₁, fun y v hy hv => ?_⟩, S2.fresh' hLle, Nat.le_trans S2.size hLle, fun y c hy => ?_, fun y c hy => ?_, fun y z c hy hz => ?_⟩
    · exfalso
      obtain ⟨_, m⟩ := cap.get hv
      have h1 := (names_of _ m).2.1 rfl
      have h2 : (relabel scope env).names.lookup y = some .local := hy
      rw [relabel_lookup, h1] at h2
      simp only [Option.map_some, Option.some.injEq] at h2
      split at h2 <;> cases h2
    · obtain ⟨h1, _⟩ := cl_of y c hy
      obtain ⟨ov, a, b⟩ := (F2.evo e12).cell y c h1
      exact ⟨ov, a, fun v hv => b v (cap.get hv).1⟩
    · obtain ⟨h1, _⟩ := cl_of y c hy
      obtain ⟨n1, n2, n3⟩ := F2.ncell y c h1
      refine ⟨n1, ?_, n3⟩
      obtain ⟨ov, a, b⟩ := F2.cell y c h1
      exact Nat.ne_of_lt (Nat.lt_of_lt_of_le a.lt hLle)
    · exact F.apart y z c (cl_of y c hy).1 (cl_of z c hz).1
  have ownc : ∀ b, Own (compEnvC scope (clOf env.cells scope.names []) H2.objs.size env) b → b = H2.objs.size ∨ Own env b := by
    rintro b (z | ⟨y, z⟩)
    · exact .inl z
    · exact .inr (.inr ⟨y, (cl_of y b z).1⟩)
  have own_lt : ∀ b, Own env b → b < s2.heap.objs.size := fun b w => by
    obtain ⟨o, e⟩ := F2.own_there w
    exact Heap.lt_size e
  have owlt : ∀ b, ow b → b < s2.heap.objs.size := fun b w => by
    obtain ⟨o, e⟩ := W.there 0 _ b hJ w
    exact Heap.lt_size e
  have loop : ∀ s₃ : Shared, s₃ = { s2 with heap := h₁, toks := s2.toks + ([] : List (Str × Value)).length } →
      codeAny C.M A (.compLoop (.ListComp elt [⟨.Name x px, iter, ifs, 0⟩] scope pos) 0 it (.ref s2.heap.objs.size) (compEnvC scope (clOf env.cells scope.names []) H2.objs.size env))
        (compPost C.M A X use Qr (.ref s2.heap.objs.size) H2.objs.size) s₃ := by
    rintro s₃ rfl
    refine comp_turns (σ0 := σ) (h0 := s.heap) (R := R) W ?_ ?_ ?_ (fun b w => (fr b w).1) (fresh2 _ (Nat.le_refl _)) (fresh2 _ hLle) (fun b w => ?_) ?_ (fun w => Nat.lt_irrefl _ (owlt _ w)) hDC
      (fun w => absurd (owlt _ w) (Nat.not_lt.mpr hLle)) (fun b w z => ?_) (fun z => ?_) ?_ _ 0 [] σ' _ #[] rfl hok (by simpa using q H2.objs.size) S3 F3 (e2.trans e12) (W.frame _ _ _ hJ e12.tup fun b o _ e => old b o e)
      (fun b w => (fr b w).2) hacc .nil (S2.fresh' (Nat.le_refl _))
    · exact lookup_relabel_local hx
    · cases z : (clOf env.cells scope.names []).lookup x with
      | none => exact z
      | some c => have := (cl_of x c z).2; rw [hx] at this; cases this
    · cases z : ρc.get x with
      | none => rfl
      | some v => have := (names_of _ (cap.get z).2).2.1 rfl; rw [hx] at this; cases this
    · cases z : C.h₀.get? b with
      | none => rfl
      | some o => have := S.base _ _ z; rw [(fr b w).1] at this; cases this
    · cases z : C.h₀.get? s2.heap.objs.size with
      | none => rfl
      | some o => have := S.base _ _ z; rw [fresh2 _ (Nat.le_refl _)] at this; cases this
    · rcases ownc b z with y | y
      · exact absurd (owlt _ w) (by rw [y]; exact Nat.not_lt.mpr hLle)
      · obtain ⟨o, e⟩ := F.own_there y
        rw [(fr b w).1] at e; cases e
    · rcases ownc _ z with y | y
      · exact hDC y
      · exact Nat.lt_irrefl _ (own_lt _ y)
    · intro out σ2 s4 items hR S4 e4 pl4 r4 na4 ns4 nl4
      exact fin _ _ σ2 s4 out items hR S4 e4 pl4 r4 na4 ns4 nl4 S2.size (Nat.le_trans S2.size hLle) hDC (fresh2 _ (Nat.le_refl _)) (fresh2 _ hLle)
  exact codeAny_compStart_list (loop _ rfl) (W.self 0 _ _ _ (W.frame _ _ _ hJ e12.tup fun b o _ e => old b o e) (loop _ rfl))

theorem Ev.comp {x : Str} {px pos : Pos} {elt iter : Expr} {ifs : List Expr} {scope : Scope} {ρc : Rho} {Q : V → Store → Prop}
    (hfree : (scope.names.all fun p => p.2 != .free || (env.cells.lookup p.1).isSome) = true) (hck : compOk scope = true) (hk : scope.kind = .function) (hx : scope.names.lookup x = some .local) (cap : Capt ρ scope.names ρc)
    (h : Src C A env (.Name x px) iter ρ σ (fun xs ok σ1 => ∀ L, CmpL C A (compEnvC scope (clOf env.cells scope.names []) L env) x ifs elt ok ρc (fun out σ2 => ∀ a, σ2 a = Option.none → Q (.ref a) (σ2.upd a (.list out))) xs [] σ1) X)
    (hs : ∀ x, foldedSetIterable iter env x = Pure.pure x := by intro _; kernel_rfl) : Ev C A env (.ListComp elt [⟨.Name x px, iter, ifs, 0⟩] scope pos) ρ σ Q X := by
  intro s S F
  rw [eval_ListComp]
  refine comp_run hfree hck hk hx cap hs S F h ?_
  intro acc L σ2 s2 out items q S2 e2 pl2 r2 na2 ⟨m, hm⟩ nl2 n1 n2 hne fa fl
  refine ⟨m, hm, fun h' sb => ?_⟩
  have kp : ∀ b o, ¬ b = L → s2.heap.get? b = some o → h'.get? b = some o := fun b o w e => (sb.2 b w).trans e
  have nt : ∀ b o, b = L → s2.heap.get? b = some o → ¬ Imm o := fun b o w z => by
    subst w
    obtain ⟨o', es, ep, ho, hd, _⟩ := hm
    rw [ho] at z; cases z; exact Imm.notDict hd
  have S3 : St C σ2 { s2 with heap := h', toks := s2.toks } := S2.ow (ow := fun b => b = L) kp nt (fun b w => w ▸ nl2) (fun b w => by
    subst w
    cases z : C.h₀.get? b with
    | none => rfl
    | some o => exact absurd (C.low _ _ z) (Nat.not_lt.mpr n2))
  have e3 : Evo σ s.heap σ2 h' := e2.ow (ow := fun b => b = L) kp (fun b w => w ▸ fl)
  obtain ⟨S4, e4⟩ := S3.adopt (a := acc) (o := .list out) ⟨items, pl2.at fun o e => kp _ _ hne e, r2.mono (tk_ow (ow := fun b => b = L) kp nt)⟩ n1 e3 fa
  exact ⟨.ref acc, _, q acc na2, .ref _, S4, e4⟩

/-- a comprehension stored into a name of the frame's own straight away -/
theorem Ex.assignComp {x y : Str} {px py pos spos : Pos} {elt iter : Expr} {ifs : List Expr} {scope : Scope} {ρc : Rho} {Q : FV → Rho → Store → Prop}
    (hfree : (scope.names.all fun p => p.2 != .free || (env.cells.lookup p.1).isSome) = true) (hck : compOk scope = true) (hk : scope.kind = .function) (hx : scope.names.lookup x = some .local) (cap : Capt ρ scope.names ρc)
    (hy : env.kindOf y = some .local) (hyc : env.cells.lookup y = none)
    (h : Src C A env (.Name x px) iter ρ σ (fun xs ok σ1 => ∀ L, CmpL C A (compEnvC scope (clOf env.cells scope.names []) L env) x ifs elt ok ρc (fun out σ2 => ∀ a, σ2 a = none → Q .next (ρ.put y (.ref a)) (σ2.upd a (.list out))) xs [] σ1) X)
    (hsw : swapsWith (.ListComp elt [⟨.Name x px, iter, ifs, 0⟩] scope pos) (some (.Name y py)) spos.line env = pure true := by kernel_rfl)
    (hs : ∀ x, foldedSetIterable iter env x = pure x := by intro _; kernel_rfl) : Ex C A env (.Assign [.Name y py] (.ListComp elt [⟨.Name x px, iter, ifs, 0⟩] scope pos) spos) ρ σ Q X := by
  intro s S F
  rw [exec_Assign_Name_used _ _ _ _ hsw]
  refine wpAny_bind (wpAny_standAt (wpAny_bind ?_))
  rw [arm_evalThenUse_ListComp]
  refine wpAny_bind ?_
  refine comp_run (Qr := fun _ s' => wpAny C.M A (pure PUnit.unit) (fun _ s' => wpAny C.M A (pure Flow.next) (SP C env σ s.heap Q) X s') X s') hfree hck hk hx cap hs S F h ?_
  intro acc L σ2 s2 out items q S2 e2 pl2 r2 na2 ⟨m, hm⟩ nl2 n1 n2 hne fa fl
  have F2 := F.evo e2
  obtain ⟨m2, hm2, f2⟩ := F2.loc
  have hLe : L ≠ env.locals := fun z => by
    obtain ⟨o, e⟩ := F.own_there (.inl rfl)
    rw [z, e] at fl; cases fl
  have hAe : acc ≠ env.locals := fun z => by
    obtain ⟨o, e⟩ := F.own_there (.inl rfl)
    rw [z, e] at fa; cases fa
  obtain ⟨S4, e4⟩ := S2.adopt (a := acc) (o := .list out) ⟨items, pl2, r2⟩ n1 e2 fa
  have F4 : Fm C (σ2.upd acc (.list out)) s2.heap env ρ := F.evo e4
  refine wpAny_assign_Name (wpAny_storeName_local hy hm2 (fun h3 hn3 hs3 => ?_) (by rw [F2.fn]; rfl))
  obtain ⟨S5, F5, e5⟩ := Fm.storeLocal (h := s2.heap) (t := s2.toks + 1) S4 F4 hy hm2 f2 hn3 hs3 (VR.ref acc) hyc
  have hm3 : h3.Ns L m := hm.sameBut hs3 hLe
  refine ⟨m, hm3, fun h' sb => ?_⟩
  have kp : ∀ b o, ¬ b = L → h3.get? b = some o → h'.get? b = some o := fun b o w e => (sb.2 b w).trans e
  have nt : ∀ b o, b = L → h3.get? b = some o → ¬ Imm o := fun b o w z => by
    subst w
    obtain ⟨o', es, ep, ho, hd, _⟩ := hm3
    rw [ho] at z; cases z; exact Imm.notDict hd
  have nl4 : (σ2.upd acc (.list out)) L = none := by rw [Store.upd_ne _ _ hne.symm]; exact nl2
  have S6 : St C (σ2.upd acc (.list out)) { s2 with heap := h', toks := s2.toks + 1 } := St.ow (s := { s2 with heap := h3, toks := s2.toks + 1 }) (ow := fun b => b = L) S5 kp nt (fun b w => w ▸ nl4) (fun b w => by
    subst w
    cases z : C.h₀.get? b with
    | none => rfl
    | some o => exact absurd (C.low _ _ z) (Nat.not_lt.mpr n2))
  refine wpAny_pure (wpAny_pure ⟨.next, _, _, q acc na2, .next, S6, F5.ow (ow := fun b => b = L) kp nt (fun b w z => ?_), ((e4.evoF F.own).trans e5).ow (ow := fun b => b = L) kp (fun b w => w ▸ fl)⟩)
  subst w
  obtain ⟨o, e⟩ := F.own_there z
  rw [e] at fl; cases fl
end

end Mine

set_option autoImplicit false
set_option linter.unusedVariables false
namespace Mine
open PySem PySem.W PySem.SeqAt

section
variable {C : Cx} {A : Around} {env : Env} {ρ : Rho} {σ : Store} {X : XP} {s : Shared}

mutual
/-- a value as plain data -/
inductive DR (C : Cx) (σ : Store) : V → PyData → Prop where
  | none : DR C σ .none .none
  | bool (b : Bool) : DR C σ (.bool b) (.bool b)
  | int (i : Int) : DR C σ (.int i) (.int i)
  | str (x : Str) : DR C σ (.str x) (.str x)
  | tup {xs : List V} {ds : List PyData} : DRs C σ xs ds → DR C σ (.tup xs) (.tuple ds)
  | list {l : Addr} {xs : List V} {ds : List PyData} : LstAt C σ l xs → DRs C σ xs ds → DR C σ (.ref l) (.list ds)
inductive DRs (C : Cx) (σ : Store) : List V → List PyData → Prop where
  | nil : DRs C σ [] []
  | cons {x : V} {xs : List V} {d : PyData} {ds : List PyData} : DR C σ x d → DRs C σ xs ds → DRs C σ (x :: xs) (d :: ds)
end

mutual
theorem DR.reads (S : St C σ s) {x : V} {d : PyData} {v : Value} (h : DR C σ x d) (r : VR s.heap v x) : ∃ as, Reads s.heap v d as := by
  cases h with
  | none => obtain rfl := r.noneI; exact ⟨_, .none⟩
  | bool b => obtain rfl := r.boolI; exact ⟨_, .bool b⟩
  | int i => obtain ⟨t, rfl⟩ := r.intI; exact ⟨_, .int i t⟩
  | str x => obtain ⟨t, rfl⟩ := r.strI; exact ⟨_, .str x t⟩
  | tup ds =>
    obtain ⟨a, items, n, rfl, e, r⟩ := r.tupI
    obtain ⟨as, h⟩ := DRs.reads S ds r
    exact ⟨_, .tuple e rfl rfl h⟩
  | list hl ds =>
    obtain rfl := r.refI
    obtain ⟨items, ⟨o, e, c, n, hd⟩, r⟩ := hl.raw S
    obtain ⟨as, h⟩ := DRs.reads S ds r
    exact ⟨_, .list e c hd h⟩
theorem DRs.reads (S : St C σ s) {xs : List V} {ds : List PyData} {vs : List Value} (h : DRs C σ xs ds) (r : VRs s.heap vs xs) : ∃ as, ReadsAll s.heap vs ds as := by
  cases h with
  | nil => obtain rfl := r.nilI; exact ⟨_, .nil⟩
  | cons a b =>
    obtain ⟨_, _, rfl, r, rs⟩ := r.consI
    obtain ⟨as, h⟩ := DR.reads S a r
    obtain ⟨bs, h'⟩ := DRs.reads S b rs
    exact ⟨_, .cons h h'⟩
end

theorem CmpWP.ne {x y : V} {d e : PyData} {Q : V → Store → Prop} (hx : DR C σ x d) (hy : DR C σ y e) (h1 : d.canLay0 = true) (h2 : e.canLay0 = true) (hu : A.units + min d.depth e.depth < cLine) (h : Q (.bool (!PyData.eqv d e)) σ) :
    CmpWP C A .NotEq x y σ Q X := by
  intro s a b S ra rb
  obtain ⟨as, r1⟩ := hx.reads S ra
  obtain ⟨bs, r2⟩ := hy.reads S rb
  exact neOverData _ _ _ _ _ _ _ _ _ _ _ _ r1 r2 h1 h2 hu (EP.pure S h (.bool _))
theorem CmpWP.inL {x : V} {l : Addr} {xs : List V} {d : PyData} {ds : List PyData} {Q : V → Store → Prop} (hl : LstAt C σ l xs) (hx : DR C σ x d) (hy : DRs C σ xs ds) (h1 : d.canLay0 = true) (h2 : PyData.canLayAll0 ds = true) (hu : A.units + 1 + min (PyData.depthAll ds) d.depth < cLine)
    (h : Q (.bool (ds.any fun y => PyData.eqv y d)) σ) : CmpWP C A .In x (.ref l) σ Q X := by
  intro s a b S ra rb
  obtain ⟨as, r1⟩ := hx.reads S ra
  obtain ⟨bs, r2⟩ := (DR.list hl hy).reads S rb
  exact in_list_reads r2 r1 h2 h1 hu (EP.pure S h (.bool _))
theorem CmpWP.notInL {x : V} {l : Addr} {xs : List V} {d : PyData} {ds : List PyData} {Q : V → Store → Prop} (hl : LstAt C σ l xs) (hx : DR C σ x d) (hy : DRs C σ xs ds) (h1 : d.canLay0 = true) (h2 : PyData.canLayAll0 ds = true) (hu : A.units + 1 + min (PyData.depthAll ds) d.depth < cLine)
    (h : Q (.bool (!ds.any fun y => PyData.eqv y d)) σ) : CmpWP C A .NotIn x (.ref l) σ Q X := by
  intro s a b S ra rb
  obtain ⟨as, r1⟩ := hx.reads S ra
  obtain ⟨bs, r2⟩ := (DR.list hl hy).reads S rb
  exact notIn_list_reads r2 r1 h2 h1 hu (EP.pure S h (.bool _))
theorem CmpWP.inT {x : V} {xs : List V} {d : PyData} {ds : List PyData} {Q : V → Store → Prop} (hx : DR C σ x d) (hy : DRs C σ xs ds) (h1 : d.canLay0 = true) (h2 : PyData.canLayAll0 ds = true) (hu : A.units + 1 + min (PyData.depthAll ds) d.depth < cLine)
    (h : Q (.bool (ds.any fun y => PyData.eqv y d)) σ) : CmpWP C A .In x (.tup xs) σ Q X := by
  intro s a b S ra rb
  obtain ⟨as, r1⟩ := hx.reads S ra
  obtain ⟨bs, r2⟩ := (DR.tup hy).reads S rb
  exact in_tuple_reads r2 r1 h2 h1 hu (EP.pure S h (.bool _))
/- None, True, False -/
theorem CmpWP.isNone {x : V} {Q : V → Store → Prop} (h : Q (.bool (match x with | .none => true | _ => false)) σ) : CmpWP C A .Is x .none σ Q X := by
  intro s a b S ra rb
  obtain rfl := rb.noneI
  refine is_none (EP.pure S h ?_)
  cases ra <;> exact .bool _
/- lists: truth, length, items -/
def BltWP (C : Cx) (A : Around) (id : String) (args : List V) (σ : Store) (Q : V → Store → Prop) (X : XP) : Prop := CallWP C A (.builtin id) args σ Q X

theorem BltWP.len_list {l : Addr} {xs : List V} {Q : V → Store → Prop} (hl : LstAt C σ l xs) (hz : xs.length < 2 ^ 62) (h : Q (.int xs.length) σ) : CallWP C A (.builtin "len") [.ref l] σ Q X := by
  intro s vs S r
  obtain ⟨_, rfl, r1⟩ := r.one
  obtain rfl := r1.refI
  obtain ⟨items, il, rl⟩ := hl.raw S
  have e := rl.length
  simp only [Array.length_toList] at e
  refine Calls.call_len_list il (by (first | lia | omega)) ⟨_, σ, h, ?_, S.toks _, .refl ..⟩
  rw [e]; exact .int _ _
end

end Mine

set_option autoImplicit false
set_option linter.unusedVariables false
namespace Mine
open PySem PySem.W PySem.SeqAt

/-- its items come by a built-in -/
def Gets (s : Shared) (a : Value) : Prop := ∃ T id, s.TypeIs a T ∧ typeLookup (.type T) "__getitem__" = pure (some (.builtin id))
def ItemWP (C : Cx) (A : Around) (o i : V) (σ : Store) (Q : V → Store → Prop) (X : XP) : Prop :=
  ∀ s a b, St C σ s → VR s.heap a o → VR s.heap b i → Gets s a ∧ wpAny C.M A (getItem a b) (EP C σ s.heap Q) X s

section
variable {C : Cx} {A : Around} {env : Env} {ρ : Rho} {σ : Store} {X : XP} {s : Shared}

theorem Gets.list {a : Addr} {items : Array Value} (h : s.heap.IsList a items) : Gets s (.ref a) := ⟨_, _, h.typeIs, PySem.slot_list_getitem.lookup⟩
theorem Gets.tup {a : Addr} {items : Array Value} {n : Nat} (h : s.heap.get? a = some (tupObj items n)) : Gets s (.ref a) := ⟨_, _, ⟨_, h, rfl⟩, PyProof.Rows.slot_tuple_getitem.lookup⟩
theorem Gets.str {x : Str} {t : Tok} : Gets s (.str x t) := ⟨_, _, typeIs_str s x t, PyProof.Rows.slot_str_getitem.lookup⟩

theorem getitem_mine {o i : Value} {slice value : Expr} {Q : Value → Shared → Prop} {E : XP} (g : Gets s o) (h : wpAny C.M A (getItem o i) Q E s) :
    wpAny C.M A (do let r ← subscripted slice (← getitemInPython o) o i; letTemporaryGo value o r; pure r) Q E s := by
  obtain ⟨T, id, hT, hl⟩ := g
  refine wpAny_bind ?_
  rw [getitemInPython_of_ne hT.not_modules]
  refine wpAny_bind (wpAny_specialOf hT hl (wpAny_pure ?_))
  refine wpAny_bind (wpAny_mono (Q := Q) ?_ (fun r s' q => wpAny_bind (wpAny_letTemporaryGo (wpAny_pure q))) fun _ _ z => z)
  cases slice <;> first | exact wpAny_operating h | (rename_i st _; cases st <;> exact wpAny_operating h)

theorem Ev.sub {value slice : Expr} {pos : Pos} {Q : V → Store → Prop} (h : Ev C A env value ρ σ (fun o σ1 => Ev C A env slice ρ σ1 (fun i σ2 => ItemWP C A o i σ2 Q X) X) X) : Ev C A env (.Subscript value slice pos) ρ σ Q X := by
  intro s S F
  rw [eval_Subscript]
  refine wpAny_bind (wpAny_mono (h s S F) ?_ fun _ _ z => z)
  rintro o s1 ⟨x, σ1, h1, r1, S1, e1⟩
  refine wpAny_bind (wpAny_holding (wpAny_mono (h1 s1 S1 (F.evo e1)) ?_ fun _ _ z => z))
  rintro i s2 ⟨y, σ2, h2, r2, S2, e2⟩
  obtain ⟨g, w⟩ := h2 s2 o i S2 (r1.mono e2.tup) r2
  exact wpAny_bind (wpAny_standAt (wpAny_mono (getitem_mine g w) (fun _ _ z => (z.after e2).after e1) fun _ _ z => z))

theorem ItemWP.list {l : Addr} {xs : List V} {k : Int} {y : V} {Q : V → Store → Prop} (hl : LstAt C σ l xs) (h0 : 0 ≤ k) (hk : k < 2 ^ 63) (hx : xs[k.toNat]? = some y) (h : Q y σ) : ItemWP C A (.ref l) (.int k) σ Q X := by
  intro s a b S ra rb
  obtain rfl := ra.refI
  obtain ⟨_, rfl⟩ := rb.intI
  obtain ⟨items, il, rl⟩ := hl.raw S
  obtain ⟨u, hu, ru⟩ := rl.get hx
  exact ⟨.list il, wpAny_getItem_list il h0 hk (by simpa using hu) (EP.pure S h ru)⟩
theorem ItemWP.tup {xs : List V} {k : Int} {j : Nat} {y : V} {Q : V → Store → Prop} (hlo : -(2 ^ 63) ≤ k) (hhi : k < 2 ^ 63) (hj : seqIndex? k xs.length = some j) (hx : xs[j]? = some y) (h : Q y σ) : ItemWP C A (.tup xs) (.int k) σ Q X := by
  intro s a b S ra rb
  obtain ⟨_, rfl⟩ := rb.intI
  cases ra with
  | @tup t items n _ ha hr =>
    obtain ⟨u, hu, ru⟩ := hr.get hx
    have e := hr.length
    simp only [Array.length_toList] at e
    exact ⟨.tup ha, PyProof.Rows.getItem_tuple (t := t) (items := items) ⟨_, ha, rfl, n, rfl⟩ hlo hhi (by rw [e]; exact hj) (by simpa using hu) (EP.pure S h ru)⟩
theorem ItemWP.str {x : Str} {k : Int} {c : Nat} {Q : V → Store → Prop} (hlo : -(2 ^ 63) ≤ k) (hhi : k < 2 ^ 63) (hc : (seqIndex? k x.length).bind (x.cps[·]?) = some c) (h : Q (.str ⟨#[c]⟩) σ) : ItemWP C A (.str x) (.int k) σ Q X := by
  intro s a b S ra rb
  obtain ⟨_, rfl⟩ := rb.intI
  obtain ⟨_, rfl⟩ := ra.strI
  exact ⟨.str, PyProof.Rows.getItem_str (by simp; (first | lia | omega)) hc (EP.pureT S h (.str _ _))⟩

/- dicts -/
def iget (es : List (Int × V)) (x : Int) : Option V := (es.find? fun p => decide (p.1 = x)).map (·.2)
/- slices -/
def Prt (C : Cx) (A : Around) (env : Env) (e : Option Expr) (ρ : Rho) (σ : Store) (Q : Option Int → Store → Prop) (X : XP) : Prop :=
  match e with
  | none => Q none σ
  | some e => Ev C A env e ρ σ (fun x σ1 => ∃ i, x = .int i ∧ Q (some i) σ1) X
theorem Prt.none {Q : Option Int → Store → Prop} (h : Q Option.none σ) : Prt C A env Option.none ρ σ Q X := h
theorem Prt.some {e : Expr} {Q : Option Int → Store → Prop} (h : Ev C A env e ρ σ (fun x σ1 => ∃ i, x = .int i ∧ Q (Option.some i) σ1) X) : Prt C A env (Option.some e) ρ σ Q X := h
theorem Prt.run {e : Option Expr} {Q : Option Int → Store → Prop} (h : Prt C A env e ρ σ Q X) (S : St C σ s) (F : Fm C σ s.heap env ρ) :
    wpAny C.M A (valueOrNone (evalOpt e env)) (fun v s' => ∃ k σ', Q k σ' ∧ IsPart v k ∧ St C σ' s' ∧ Evo σ s.heap σ' s'.heap) X s := by
  match e, h with
  | Option.none, h => exact wpAny_pure ⟨Option.none, σ, h, .none, S, .refl ..⟩
  | Option.some e, h =>
    refine wpAny_mono (h s S F) ?_ fun _ _ z => z
    rintro v s1 ⟨x, σ1, ⟨i, rfl, q⟩, r1, S1, e1⟩
    cases r1
    exact ⟨Option.some i, σ1, q, .int _ _, S1, e1⟩

def pySlice {α : Type} (xs : List α) (lo hi : Option Int) : List α :=
  (sliceRange (sliceBounds lo hi none xs.length).1 (sliceBounds lo hi none xs.length).2.1 (sliceBounds lo hi none xs.length).2.2).filterMap (xs[·]?)
theorem VRs.pick {h : Heap} {vs : List Value} {xs : List V} (r : VRs h vs xs) : ∀ ks : List Nat, VRs h (ks.filterMap (vs[·]?)) (ks.filterMap (xs[·]?))
  | [] => .nil
  | k :: ks => by
    have ih := VRs.pick r ks
    cases q : xs[k]? with
    | none =>
      have : vs[k]? = none := by
        have h1 := List.getElem?_eq_none_iff.mp q
        exact List.getElem?_eq_none_iff.mpr (by rw [r.length]; exact h1)
      simp only [List.filterMap_cons, q, this]; exact ih
    | some y =>
      obtain ⟨u, hu, ru⟩ := r.get q
      simp only [List.filterMap_cons, q, hu]; exact .cons ru ih
theorem slicePick_list (items : Array Value) (lo hi : Option Int) : (slicePick items lo hi none).toList = pySlice items.toList lo hi := by
  unfold slicePick pySlice
  simp
end

end Mine

set_option autoImplicit false
set_option linter.unusedVariables false
namespace Mine
open PySem PySem.W PySem.SeqAt

/-- a built-in type's value without a dict of its own -/
def TyV (C : Cx) (σ : Store) (x : V) (T : String) : Prop := ∀ s v, St C σ s → VR s.heap v x → s.TypeIs v T ∧ ∀ a, v = .ref a → ∃ ob, s.heap.get? a = some ob ∧ ob.dict = none

section
variable {C : Cx} {A : Around} {env : Env} {ρ : Rho} {σ : Store} {X : XP} {s : Shared}

theorem TyV.list {l : Addr} {xs : List V} (h : σ l = some (.list xs)) : TyV C σ (.ref l) "list" := by
  intro s v S r
  cases r
  obtain ⟨items, ⟨n, e⟩, _⟩ := S.rep _ _ h
  exact ⟨⟨_, e, rfl⟩, fun a q => by cases q; exact ⟨_, e, rfl⟩⟩
/-- a method of a built-in type -/
theorem Ev.bmeth {o : Expr} {name : Str} {apos pos : Pos} {args : List Expr} {T id : String} {Q : V → Store → Prop} (pa : PlainAttrs T) (slot : Slot T name id) (hty : typeOf (.builtin id) = Pure.pure (.type "method_descriptor"))
    (h : Ev C A env o ρ σ (fun x σ1 => TyV C σ1 x T ∧ Ags C A env pos args ρ σ1 (fun xs σ2 => CallWP C A (.builtin id) (x :: xs) σ2 Q X) X) X)
    (hbase : attributeBase o name env (eval o env) = eval o env := by kernel_rfl)
    (hfew : ((backTo pos (starEach args env)).all (fun x => !x.1) && (backToKw pos (keywordEach [] env)).all (fun x => x.1.isSome)
      && decide (args.length + ([] : List Keyword).length + (if ([] : List Keyword).isEmpty then 0 else 1) < 30)) = true := by kernel_rfl)
    (hline : (apos.endLine == pos.line) = true := by kernel_rfl) (hst : (backTo pos (starEach args env)).any (·.1) = false := by kernel_rfl) : Ev C A env (.Call (.Attribute o name apos) args [] pos) ρ σ Q X := by
  intro s S F
  refine wpAny_Call_method hbase hfew hline pa slot hty (wpAny_mono (h s S F) ?_ fun _ _ z => z)
  rintro ov s1 ⟨x, σ1, ⟨t, q⟩, r1, S1, e1⟩
  obtain ⟨t1, t2⟩ := t s1 ov S1 r1
  exact ⟨t1, t2, wpAny_mono (callWith_mine (first := [ov]) (fx := [x]) Kp.blt S1 (F.evo e1) (.cons r1 .nil) q hst) (fun _ _ z => z.after e1) fun _ _ z => z⟩

/- one list changed -/
theorem upd_list {l : Addr} {xs : List V} {items : Array Value} {n : Nat} {f : Array Value → Array Value} {ys : List V} (S : St C σ s) (hl : σ l = some (.list xs)) (e : s.heap.get? l = some { cls := .type "list", data := .seq items n })
    (r : VRs s.heap (f items).toList ys) : St C (σ.upd l (.list ys)) { s with heap := s.heap.update l (Obj.mapSeq f) } ∧ Evo σ s.heap (σ.upd l (.list ys)) (s.heap.update l (Obj.mapSeq f)) := by
  have sb : Heap.SameBut l s.heap (s.heap.update l (Obj.mapSeq f)) := Heap.SameBut.update ..
  have tk : TupKeep s.heap (s.heap.update l (Obj.mapSeq f)) := tupKeep_sameBut sb (S.rep _ _ hl).notTup
  have e' : ∃ n', (s.heap.update l (Obj.mapSeq f)).get? l = some { cls := .type "list", data := .seq (f items) n' } := by
    refine ⟨if (f items).size == items.size then n else n + 1, ?_⟩
    rw [Heap.get?_update_self _ e (by rfl)]; rfl
  exact S.set (t := s.toks) hl sb ⟨f items, e', r.mono tk⟩

theorem CallWP.append {l : Addr} {xs : List V} {x : V} {Q : V → Store → Prop} (hl : σ l = some (.list xs)) (hz : xs.length ≤ sizeLine) (h : Q .none (σ.upd l (.list (xs ++ [x])))) : CallWP C A (.builtin "list.append") [.ref l, x] σ Q X := by
  intro s vs S r
  obtain ⟨_, _, rfl, r1, r2⟩ := r.two
  obtain rfl := r1.refI
  obtain ⟨items, pl, rl⟩ := S.rep _ _ hl
  have e := rl.length
  simp only [Array.length_toList] at e
  refine wpAny_list_append_plain pl (fun h' pl' sb => ?_) (by (first | lia | omega))
  have tk : TupKeep s.heap h' := tupKeep_sameBut sb (S.rep _ _ hl).notTup
  obtain ⟨S', e'⟩ := S.set (t := s.toks) (o' := .list (xs ++ [x])) hl sb ⟨_, pl', by simp only [Array.toList_push]; exact (rl.mono tk).append (.cons (r2.mono tk) .nil)⟩
  exact ⟨.none, _, h, .none, S', e'⟩

/- remove -/
end

end Mine

set_option autoImplicit false
set_option linter.unusedVariables false
namespace Mine
open PySem PySem.W PySem.SeqAt

inductive Ty where
  | none | bool | int | str | tup | list | dict
def Ty.name : Ty → String
  | .none => "NoneType" | .bool => "bool" | .int => "int" | .str => "str" | .tup => "tuple" | .list => "list" | .dict => "dict"
inductive HasTy (C : Cx) (σ : Store) : V → Ty → Prop
  | none : HasTy C σ .none .none
  | bool (b : Bool) : HasTy C σ (.bool b) .bool
  | int (i : Int) : HasTy C σ (.int i) .int
  | str (x : Str) : HasTy C σ (.str x) .str
  | tup (xs : List V) : HasTy C σ (.tup xs) .tup
  | list {l : Addr} {xs : List V} : LstAt C σ l xs → HasTy C σ (.ref l) .list
  | sd {l : Addr} {xs : List (Str × V)} : σ l = some (.sd xs) → HasTy C σ (.ref l) .dict
  | id {l : Addr} {xs : List (Int × V)} : σ l = some (.id xs) → HasTy C σ (.ref l) .dict
def isiB : Ty → String → Bool
  | .bool, "int" => true
  | .bool, "bool" => true
  | .int, "int" => true
  | .str, "str" => true
  | .tup, "tuple" => true
  | .list, "list" => true
  | _, _ => false

section
variable {C : Cx} {A : Around} {env : Env} {ρ : Rho} {σ : Store} {X : XP} {s : Shared}

/-- how the heap bears a value's type -/
def Bears (s : Shared) (v : Value) : Ty → Prop
  | .none => v = .none
  | .bool => ∃ b, v = .bool b
  | .int => ∃ i t, v = .int i t
  | .str => ∃ x t, v = .str x t
  | .tup => ∃ a o, v = .ref a ∧ s.heap.get? a = some o ∧ o.cls = .type "tuple"
  | .list => ∃ a o, v = .ref a ∧ s.heap.get? a = some o ∧ o.cls = .type "list"
  | .dict => ∃ a o, v = .ref a ∧ s.heap.get? a = some o ∧ o.cls = .type "dict"
theorem HasTy.bears {x : V} {t : Ty} (h : HasTy C σ x t) {v : Value} (S : St C σ s) (r : VR s.heap v x) : Bears s v t := by
  cases h with
  | none => exact r.noneI
  | bool b => exact ⟨b, r.boolI⟩
  | int i => exact ⟨i, r.intI⟩
  | str i => exact ⟨i, r.strI⟩
  | tup xs =>
    obtain ⟨a, items, n, rfl, e, _⟩ := r.tupI
    exact ⟨_, _, rfl, e, rfl⟩
  | list hl =>
    obtain rfl := r.refI
    obtain ⟨items, ⟨o, e, c, _⟩, _⟩ := hl.raw S
    exact ⟨_, _, rfl, e, c⟩
  | sd hl =>
    obtain rfl := r.refI
    obtain ⟨kvs, D, _⟩ := S.rep _ _ hl
    obtain ⟨o, e, c⟩ := D.typeIs (s := s)
    exact ⟨_, _, rfl, e, c⟩
  | id hl =>
    obtain rfl := r.refI
    obtain ⟨kvs, D, _⟩ := S.rep _ _ hl
    obtain ⟨o, e, c⟩ := D.typeIs (s := s)
    exact ⟨_, _, rfl, e, c⟩

theorem isi_raw {v : Value} {t : Ty} {U : String} {Q : Value → Shared → Prop} {E : XP} (b : Bears s v t) (hU : U = "int" ∨ U = "bool" ∨ U = "str" ∨ U = "list" ∨ U = "tuple") (h : ∀ tk, Q (.bool (isiB t U)) { s with toks := tk }) :
    wpAny C.M A (call (.builtin "isinstance") [v, .type U]) Q E s := by
  rcases hU with rfl | rfl | rfl | rfl | rfl
  · cases t with
    | none => subst b; exact call_isinstance (isinstance_false_none (by decide +kernel) F.isi_meta_int F.sub_NoneType_int) (h _)
    | bool => obtain ⟨_, rfl⟩ := b; exact call_isinstance (isinstance_true (Tx := "bool") F.isi_meta_int F.sub_bool_int) ⟨rfl, h s.toks⟩
    | int => obtain ⟨_, _, rfl⟩ := b; exact call_isinstance (isinstance_true (Tx := "int") F.isi_meta_int F.sub_int_int) ⟨rfl, h s.toks⟩
    | str => obtain ⟨_, _, rfl⟩ := b; exact call_isinstance (isinstance_false_str (by decide +kernel) F.isi_meta_int F.sub_str_int) (h _)
    | tup => obtain ⟨a, o, rfl, e, hc⟩ := b; exact call_isinstance (isinstance_false_tuple (by decide +kernel) F.isi_meta_int F.sub_tuple_int) ⟨⟨o, e, hc⟩, h _⟩
    | list => obtain ⟨a, o, rfl, e, hc⟩ := b; exact call_isinstance (isinstance_false_list (by decide +kernel) F.isi_meta_int F.sub_list_int) ⟨⟨o, e, hc⟩, h _⟩
    | dict => obtain ⟨a, o, rfl, e, hc⟩ := b; exact call_isinstance (isinstance_false_dict (by decide +kernel) F.isi_meta_int F.sub_dict_int) ⟨⟨o, e, hc⟩, h _⟩
  · cases t with
    | none => subst b; exact call_isinstance (isinstance_false_none (by decide +kernel) F.isi_meta_bool F.sub_NoneType_bool) (h _)
    | bool => obtain ⟨_, rfl⟩ := b; exact call_isinstance (isinstance_true (Tx := "bool") F.isi_meta_bool F.sub_bool_bool) ⟨rfl, h s.toks⟩
    | int => obtain ⟨_, _, rfl⟩ := b; exact call_isinstance (isinstance_false_int (by decide +kernel) F.isi_meta_bool F.sub_int_bool) (h _)
    | str => obtain ⟨_, _, rfl⟩ := b; exact call_isinstance (isinstance_false_str (by decide +kernel) F.isi_meta_bool F.sub_str_bool) (h _)
    | tup => obtain ⟨a, o, rfl, e, hc⟩ := b; exact call_isinstance (isinstance_false_tuple (by decide +kernel) F.isi_meta_bool F.sub_tuple_bool) ⟨⟨o, e, hc⟩, h _⟩
    | list => obtain ⟨a, o, rfl, e, hc⟩ := b; exact call_isinstance (isinstance_false_list (by decide +kernel) F.isi_meta_bool F.sub_list_bool) ⟨⟨o, e, hc⟩, h _⟩
    | dict => obtain ⟨a, o, rfl, e, hc⟩ := b; exact call_isinstance (isinstance_false_dict (by decide +kernel) F.isi_meta_bool F.sub_dict_bool) ⟨⟨o, e, hc⟩, h _⟩
  · cases t with
    | none => subst b; exact call_isinstance (isinstance_false_none (by decide +kernel) F.isi_meta_str F.sub_NoneType_str) (h _)
    | bool => obtain ⟨_, rfl⟩ := b; exact call_isinstance (isinstance_false_bool (by decide +kernel) F.isi_meta_str F.sub_bool_str) (h _)
    | int => obtain ⟨_, _, rfl⟩ := b; exact call_isinstance (isinstance_false_int (by decide +kernel) F.isi_meta_str F.sub_int_str) (h _)
    | str => obtain ⟨_, _, rfl⟩ := b; exact call_isinstance (isinstance_true (Tx := "str") F.isi_meta_str F.sub_str_str) ⟨rfl, h s.toks⟩
    | tup => obtain ⟨a, o, rfl, e, hc⟩ := b; exact call_isinstance (isinstance_false_tuple (by decide +kernel) F.isi_meta_str F.sub_tuple_str) ⟨⟨o, e, hc⟩, h _⟩
    | list => obtain ⟨a, o, rfl, e, hc⟩ := b; exact call_isinstance (isinstance_false_list (by decide +kernel) F.isi_meta_str F.sub_list_str) ⟨⟨o, e, hc⟩, h _⟩
    | dict => obtain ⟨a, o, rfl, e, hc⟩ := b; exact call_isinstance (isinstance_false_dict (by decide +kernel) F.isi_meta_str F.sub_dict_str) ⟨⟨o, e, hc⟩, h _⟩
  · cases t with
    | none => subst b; exact call_isinstance (isinstance_false_none (by decide +kernel) F.isi_meta_list F.sub_NoneType_list) (h _)
    | bool => obtain ⟨_, rfl⟩ := b; exact call_isinstance (isinstance_false_bool (by decide +kernel) F.isi_meta_list F.sub_bool_list) (h _)
    | int => obtain ⟨_, _, rfl⟩ := b; exact call_isinstance (isinstance_false_int (by decide +kernel) F.isi_meta_list F.sub_int_list) (h _)
    | str => obtain ⟨_, _, rfl⟩ := b; exact call_isinstance (isinstance_false_str (by decide +kernel) F.isi_meta_list F.sub_str_list) (h _)
    | tup => obtain ⟨a, o, rfl, e, hc⟩ := b; exact call_isinstance (isinstance_false_tuple (by decide +kernel) F.isi_meta_list F.sub_tuple_list) ⟨⟨o, e, hc⟩, h _⟩
    | list => obtain ⟨a, o, rfl, e, hc⟩ := b; exact call_isinstance (isinstance_true (Tx := "list") F.isi_meta_list F.sub_list_list) ⟨⟨o, e, hc⟩, h s.toks⟩
    | dict => obtain ⟨a, o, rfl, e, hc⟩ := b; exact call_isinstance (isinstance_false_dict (by decide +kernel) F.isi_meta_list F.sub_dict_list) ⟨⟨o, e, hc⟩, h _⟩
  · cases t with
    | none => subst b; exact call_isinstance (isinstance_false_none (by decide +kernel) F.isi_meta_tuple F.sub_NoneType_tuple) (h _)
    | bool => obtain ⟨_, rfl⟩ := b; exact call_isinstance (isinstance_false_bool (by decide +kernel) F.isi_meta_tuple F.sub_bool_tuple) (h _)
    | int => obtain ⟨_, _, rfl⟩ := b; exact call_isinstance (isinstance_false_int (by decide +kernel) F.isi_meta_tuple F.sub_int_tuple) (h _)
    | str => obtain ⟨_, _, rfl⟩ := b; exact call_isinstance (isinstance_false_str (by decide +kernel) F.isi_meta_tuple F.sub_str_tuple) (h _)
    | tup => obtain ⟨a, o, rfl, e, hc⟩ := b; exact call_isinstance (isinstance_true (Tx := "tuple") F.isi_meta_tuple F.sub_tuple_tuple) ⟨⟨o, e, hc⟩, h s.toks⟩
    | list => obtain ⟨a, o, rfl, e, hc⟩ := b; exact call_isinstance (isinstance_false_list (by decide +kernel) F.isi_meta_tuple F.sub_list_tuple) ⟨⟨o, e, hc⟩, h _⟩
    | dict => obtain ⟨a, o, rfl, e, hc⟩ := b; exact call_isinstance (isinstance_false_dict (by decide +kernel) F.isi_meta_tuple F.sub_dict_tuple) ⟨⟨o, e, hc⟩, h _⟩

theorem CallWP.isi {x : V} {t : Ty} {U : String} {Q : V → Store → Prop} (ht : HasTy C σ x t) (hU : U = "int" ∨ U = "bool" ∨ U = "str" ∨ U = "list" ∨ U = "tuple") (h : Q (.bool (isiB t U)) σ) : CallWP C A (.builtin "isinstance") [x, .typ U] σ Q X := by
  intro s vs S r
  obtain ⟨_, _, rfl, r1, r2⟩ := r.two
  obtain rfl := r2.typI
  exact isi_raw (ht.bears S r1) hU fun tk => EP.pureT S h (.bool _)

/- list(), tuple() -/
theorem CallWP.listOf {l : Addr} {xs : List V} {Q : V → Store → Prop} (hl : LstAt C σ l xs) (hz : xs.length ≤ sizeLine) (h : ∀ a, σ a = Option.none → Q (.ref a) (σ.upd a (.list xs))) : CallWP C A (.type "list") [.ref l] σ Q X := by
  intro s vs S r
  obtain ⟨_, rfl, r1⟩ := r.one
  obtain rfl := r1.refI
  obtain ⟨items, ⟨o, e, c, n, hd⟩, rl⟩ := hl.raw S
  have el := rl.length
  simp only [Array.length_toList] at el
  refine call_list_seq l (.inl rfl) e c hd (fun h' c' kp e' => ?_) (by (first | lia | omega))
  have S' : St C σ { s with heap := h', toks := s.toks } := S.ext kp
  obtain ⟨S2, e2⟩ := S'.adopt (a := s.heap.objs.size) (o := .list xs) (σ0 := σ) (h0 := s.heap) ⟨items, ⟨c', e'⟩, rl.mono fun _ _ _ q => kp _ _ q⟩ S.size (.ext kp) (get?_fresh _)
  exact ⟨.ref _, _, h _ S.fresh, .ref _, S2, e2⟩
theorem CallWP.listOfTup {xs : List V} {Q : V → Store → Prop} (hz : xs.length ≤ sizeLine) (h : ∀ a, σ a = Option.none → Q (.ref a) (σ.upd a (.list xs))) : CallWP C A (.type "list") [.tup xs] σ Q X := by
  intro s vs S r
  obtain ⟨_, rfl, r1⟩ := r.one
  cases r1 with
  | @tup a items n _ e rl =>
  have el := rl.length
  simp only [Array.length_toList] at el
  refine call_list_seq a (.inr rfl) e rfl rfl (fun h' c' kp e' => ?_) (by (first | lia | omega))
  have S' : St C σ { s with heap := h', toks := s.toks } := S.ext kp
  obtain ⟨S2, e2⟩ := S'.adopt (a := s.heap.objs.size) (o := .list xs) (σ0 := σ) (h0 := s.heap) ⟨items, ⟨c', e'⟩, rl.mono fun _ _ _ q => kp _ _ q⟩ S.size (.ext kp) (get?_fresh _)
  exact ⟨.ref _, _, h _ S.fresh, .ref _, S2, e2⟩
theorem CallWP.tupOf {l : Addr} {xs : List V} {Q : V → Store → Prop} (hl : LstAt C σ l xs) (hz : xs.length ≤ sizeLine) (h : Q (.tup xs) σ) : CallWP C A (.type "tuple") [.ref l] σ Q X := by
  intro s vs S r
  obtain ⟨_, rfl, r1⟩ := r.one
  obtain rfl := r1.refI
  obtain ⟨items, il, rl⟩ := hl.raw S
  have el := rl.length
  simp only [Array.length_toList] at el
  refine call_tuple_list il (fun h' kp => ?_) (by (first | lia | omega))
  have S' : St C σ { s with heap := h', toks := s.toks } := S.ext kp
  exact ⟨.tup xs, σ, h, .tup (n := 0) (Heap.get?_push_size _ rfl) ((rl.mono fun _ _ _ q => kp _ _ q).push), S'.push, (Evo.ext kp).trans .push⟩
theorem CallWP.tupOfTup {xs : List V} {Q : V → Store → Prop} (h : Q (.tup xs) σ) : CallWP C A (.type "tuple") [.tup xs] σ Q X := by
  intro s vs S r
  obtain ⟨_, rfl, r1⟩ := r.one
  cases r1 with
  | @tup a items n _ e rl =>
  exact call_tuple_same ⟨_, e, rfl, n, rfl⟩ (EP.pure S h (.tup e rl))

/- len, abs -/
theorem CallWP.len_tup {xs : List V} {Q : V → Store → Prop} (hz : xs.length < 2 ^ 62) (h : Q (.int xs.length) σ) : CallWP C A (.builtin "len") [.tup xs] σ Q X := by
  intro s vs S r
  obtain ⟨_, rfl, r1⟩ := r.one
  cases r1 with
  | @tup a items n _ e rl =>
  have el := rl.length
  simp only [Array.length_toList] at el
  refine PyProof.Rows.len_tuple (t := a) (items := items) ⟨_, e, rfl, n, rfl⟩ (by (first | lia | omega)) ⟨_, σ, h, ?_, S.toks _, .refl ..⟩
  rw [el]; exact .int _ _
theorem CallWP.len_str {x : Str} {Q : V → Store → Prop} (hz : x.length < 2 ^ 62) (h : Q (.int x.length) σ) : CallWP C A (.builtin "len") [.str x] σ Q X := by
  intro s vs S r
  obtain ⟨_, rfl, r1⟩ := r.one
  obtain ⟨_, rfl⟩ := r1.strI
  exact PyProof.Rows.len_str (by (first | lia | omega)) ⟨_, σ, h, .int _ _, S.toks _, .refl ..⟩
end

end Mine

set_option autoImplicit false
set_option linter.unusedVariables false
namespace Mine
open PySem PySem.W PySem.SeqAt

section
variable {C : Cx} {A : Around} {env : Env} {ρ : Rho} {σ : Store} {X : XP} {s : Shared}

theorem BinWP.cat {l b : Addr} {xs ys : List V} {Q : V → Store → Prop} (hl : LstAt C σ l xs) (hb : LstAt C σ b ys) (hz : xs.length + ys.length ≤ sizeLine) (h : ∀ a, σ a = none → Q (.ref a) (σ.upd a (.list (xs ++ ys)))) :
    BinWP C A .Add (.ref l) (.ref b) σ Q X := by
  intro s u v S r1 r2
  cases r1; cases r2
  obtain ⟨items, ⟨⟨c1, d1, t1, s1⟩, ho, hc, n, hd⟩, rl⟩ := hl.raw S
  obtain ⟨items2, ⟨⟨c2, d2, t2, s2⟩, ho2, hc2, n2, hd2⟩, rl2⟩ := hb.raw S
  have el := rl.length
  have el2 := rl2.length
  simp only [Array.length_toList] at el el2
  dsimp only at hc hd hc2 hd2
  subst hc hd hc2 hd2
  refine concat_meets ⟨_, ho, rfl⟩ ⟨_, ho2, rfl⟩ noFill_list_add seq_list_add PySem.F.slot_list_add PySem.F.entry_list_add (PySem.F.args_list_add_2 _ _) (PyProof.Rows.list_addW l b items items2 n n2 d1 d2 s1 s2 (by (first | lia | omega))) ⟨ho, ho2, ?_⟩
  obtain ⟨S2, e2⟩ := S.new (t := s.toks) (x := { cls := .type "list", data := .seq (items ++ items2) }) (o := .list (xs ++ ys)) ⟨_, ⟨0, Heap.get?_push_size _ rfl⟩, by simp only [Array.toList_append]; exact (rl.append rl2).push⟩
  exact ⟨.ref _, _, h _ S.fresh, .ref _, S2, e2⟩

/- texts -/
/- dicts -/
theorem Ev.dict0 {pos : Pos} {Q : V → Store → Prop} (h : ∀ a, σ a = none → Q (.ref a) (σ.upd a (.sd []))) : Ev C A env (.Dict [] [] pos) ρ σ Q X := by
  intro s S F
  refine wpAny_Dict_empty ?_
  obtain ⟨S2, e2⟩ := S.new (t := s.toks) (x := { cls := .type "dict", data := .dict #[] }) (o := .sd []) ⟨[], Heap.DictOf.new _, .nil⟩
  exact ⟨.ref _, _, h _ S.fresh, .ref _, S2, e2⟩
/-- the store of an item -/
def SetWP (C : Cx) (A : Around) (o i y : V) (σ : Store) (Q : Store → Prop) (X : XP) : Prop :=
  ∀ s a b v, St C σ s → VR s.heap a o → VR s.heap b i → VR s.heap v y → wpAny C.M A (setItem a b v) (fun _ s' => ∃ σ', Q σ' ∧ St C σ' s' ∧ Evo σ s.heap σ' s'.heap) X s
theorem assign_sub (o i : Expr) (pos : Pos) (env : Env) (v : Value) : assign (.Subscript o i pos) env v = (do
    let ov ← holding [v] (eval o env)
    let iv ← holding [v, ov] (eval i env)
    standAt pos
    holding [v, ov, iv] (setItem ov iv v)
    release (match i with | .Slice _ _ none _ => [iv, v, ov] | _ => [v, ov, iv]) []) := rfl
theorem Asg.sub {o i : Expr} {pos : Pos} {y : V} {Q : Rho → Store → Prop} (h : Ev C A env o ρ σ (fun x σ1 => Ev C A env i ρ σ1 (fun z σ2 => SetWP C A x z y σ2 (fun σ3 => Q ρ σ3) X) X) X) : Asg C A env (.Subscript o i pos) y ρ σ Q X := by
  intro s v S F r
  rw [assign_sub]
  refine wpAny_bind (wpAny_holding (wpAny_mono (h s S F) ?_ fun _ _ z => z))
  rintro ov s1 ⟨x, σ1, h1, r1, S1, e1⟩
  refine wpAny_bind (wpAny_holding (wpAny_mono (h1 s1 S1 (F.evo e1)) ?_ fun _ _ z => z))
  rintro iv s2 ⟨z, σ2, h2, r2, S2, e2⟩
  refine wpAny_bind (wpAny_standAt (wpAny_bind (wpAny_holding (wpAny_mono (h2 s2 ov iv v S2 (r1.mono e2.tup) r2 ((r.mono e1.tup).mono e2.tup)) ?_ fun _ _ z => z))))
  rintro _ s3 ⟨σ3, q, S3, e3⟩
  have e := (e1.trans e2).trans e3
  exact PyProof.Rows.wpAny_release' ⟨ρ, σ3, q, S3, F.evo e, e.evoF F.own⟩

theorem SetWP.sd {d : Addr} {es : List (Str × V)} {k : Str} {y : V} {Q : Store → Prop} (hd : σ d = some (.sd es)) (hz : es.length ≤ sizeLine) (h : Q (σ.upd d (.sd (sput es k y)))) : SetWP C A (.ref d) (.str k) y σ Q X := by
  intro s a b v S ra rb rv
  obtain rfl := ra.refI
  obtain ⟨_, rfl⟩ := rb.strI
  obtain ⟨kvs, D, pr⟩ := S.rep _ _ hd
  have hnd : (kvs.map (·.1)).Nodup := by obtain ⟨_, _, _, _, _, _, _, _, hn⟩ := D; exact hn
  refine wpAny_setItem_pairs (knd := strKind C.prog C.w) (k := k) (by show (k == k) = true; simp) D (fun h' D' sb => ?_) (by rw [pr.length]; exact hz)
  have tk : TupKeep s.heap h' := tupKeep_sameBut sb (S.rep _ _ hd).notTup
  obtain ⟨S2, e2⟩ := S.set (t := s.toks + 1) (o' := .sd (sput es k y)) hd sb ⟨_, D', PR.stored (rv.mono tk) (pr.mono tk) hnd⟩
  exact ⟨_, h, S2, e2⟩
def iput : List (Int × V) → Int → V → List (Int × V)
  | [], x, v => [(x, v)]
  | (y, u) :: r, x, v => if x = y then (x, v) :: r else (y, u) :: iput r x v
/- in a dict -/
def SysOk (C : Cx) : Prop := (sysModules < C.n₀ ∧ sysModules ∉ C.tabs ∧ ¬ C.loose) ∨ ∃ o, C.h₀.get? sysModules = some o
theorem St.notSys {a : Addr} {o : O} (S : St C σ s) (hn : SysOk C) (h : σ a = some o) : (a == sysModules) = false := by
  refine beq_eq_false_iff_ne.mpr fun q => ?_
  rcases hn with hn | ⟨o', e⟩
  · rcases (S.above a o h).2 with this | this | this
    · rw [q] at this; exact absurd hn.1 (Nat.not_lt.mpr this)
    · rw [q] at this; exact hn.2.1 this
    · exact hn.2.2 this
  · rw [← q, (S.above a o h).1] at e; cases e
theorem valueAt_isSome {K : Type} [DecidableEq K] {h : Heap} {x : K} {kvs : List (K × Value)} {es : List (K × V)} (z : PR h kvs es) : (valueAt kvs x).isSome = ((es.find? fun p => decide (p.1 = x)).map (·.2)).isSome := by
  induction z with
  | nil => rfl
  | @cons k _ _ _ _ r rs ih =>
    unfold valueAt
    by_cases q : k = x
    · subst q; simp
    · simp only [List.find?_cons, q, decide_false]
      exact ih
theorem CmpWP.inSd {d : Addr} {es : List (Str × V)} {k : Str} {Q : V → Store → Prop} (hd : σ d = some (.sd es)) (hn : SysOk C) (h : Q (.bool (sget es k).isSome) σ) : CmpWP C A .In (.str k) (.ref d) σ Q X := by
  intro s a b S ra rb
  obtain ⟨_, rfl⟩ := ra.strI
  obtain rfl := rb.refI
  obtain ⟨kvs, D, pr⟩ := S.rep _ _ hd
  refine wpAny_in_of (knd := strKind C.prog C.w) (k := k) (by show (k == k) = true; simp) (S.notSys hn hd) D.mapOf (EP.pureT S ?_ (.bool _))
  rw [valueAt_isSome pr]; exact h
theorem CmpWP.notInSd {d : Addr} {es : List (Str × V)} {k : Str} {Q : V → Store → Prop} (hd : σ d = some (.sd es)) (hn : SysOk C) (h : Q (.bool (!(sget es k).isSome)) σ) : CmpWP C A .NotIn (.str k) (.ref d) σ Q X := by
  intro s a b S ra rb
  obtain ⟨_, rfl⟩ := ra.strI
  obtain rfl := rb.refI
  obtain ⟨kvs, D, pr⟩ := S.rep _ _ hd
  refine wpAny_notIn_of (knd := strKind C.prog C.w) (k := k) (by show (k == k) = true; simp) (S.notSys hn hd) D.mapOf (EP.pureT S ?_ (.bool _))
  rw [valueAt_isSome pr]; exact h
end

end Mine

set_option autoImplicit false
set_option linter.unusedVariables false
namespace Mine
open PySem PySem.W PySem.SeqAt PyProof.Rows

section
variable {C : Cx} {A : Around} {env : Env} {ρ : Rho} {σ : Store} {X : XP} {s : Shared}

theorem ofS_ne {a b : String} (h : a ≠ b) : Str.ofString a ≠ Str.ofString b := by
  intro e
  rw [Str.ofString_eq_toList, Str.ofString_eq_toList] at e
  injection e with e
  have e1 : a.toList.map Char.toNat = b.toList.map Char.toNat := by
    have := congrArg Array.toList e; simpa using this
  have inj : Function.Injective Char.toNat := fun x y hxy => by
    have : x.val.toNat = y.val.toNat := hxy
    exact Char.ext (UInt32.toNat_inj.mp this)
  have e2 : a.toList = b.toList := by
    have : ∀ (l m : List Char), l.map Char.toNat = m.map Char.toNat → l = m := by
      intro l
      induction l with
      | nil => intro m hm; cases m with | nil => rfl | cons _ _ => simp at hm
      | cons x l ih =>
        intro m hm
        cases m with
        | nil => simp at hm
        | cons y m =>
          simp only [List.map_cons, List.cons.injEq] at hm
          rw [inj hm.1, ih m hm.2]
    exact this _ _ e1
  exact h (by rw [← String.ofList_toList (s := a), ← String.ofList_toList (s := b), e2])

/-- a call of a def of the text -/
theorem CallWP.fnK {f : Addr} {name qual : Str} {params : Arguments} {body : List Stmt} {scope : Scope} {dV kV doc pm cdv ct oc : Value} {an od : Option Addr} {osl : Array (Option Value)} {names : List Str} {args : List V} {Q : V → Store → Prop}
    (ho : C.K.lookup f = some ⟨oc, od, .func (fnOf name qual params body scope dV kV doc pm an cdv ct), osl⟩) (hcd : codeIn C.K cdv qual = true)
    (hroom : A.depth < recursionLimit)
    (h : ∀ L, Exs C (A.deeper (callEnvC (fnOf name qual params body scope dV kV doc pm an cdv ct) L f)) (callEnvC (fnOf name qual params body scope dV kV doc pm an cdv ct) L f) body (names.zip args) σ (fun g _ σ' => Q g.val σ') (fun _ _ => False))
    (hbind : ∀ vals : List Value, vals.length = args.length → bindArgs (fnOf name qual params body scope dV kV doc pm an cdv ct) ⟨vals, []⟩ = pure (names.zip vals)) (nd : names.Nodup)
    (hkind : (names.all fun y => scope.names.lookup y == some .local || scope.names.lookup y == some .cell) = true) (hsc : scopeOk scope = true) (hco : scope.isCoroutine = false) (hgen : scope.isGenerator = false) (hk : scope.kind = .function) :
    CallWP C A (.ref f) args σ Q X := by
  refine CallWP.fn (C.KX _ _ ho) rfl C.lim (codeRec_of C.KX hcd) rfl hbind rfl nd (fun x hx => ?_) hroom hsc hco hgen hk h
  have := List.all_eq_true.mp hkind x hx
  rcases Bool.or_eq_true_iff.mp this with q | q
  · exact .inl (by simpa using q)
  · have q' : scope.names.lookup x = some .cell := by simpa using q
    exact .inr ⟨q', fun L => cellsFrom_some _ _ _ (.inl q')⟩
end
end Mine

set_option autoImplicit false
set_option linter.unusedVariables false
namespace Mine
open PySem PySem.W PySem.SeqAt PyProof.Rows

/-- a frame's surroundings, its table of names apart -/
abbrev mkE (sc : Scope) (L : Addr) (cells : List (Str × Addr)) (q : Str) (fn : Option Addr) (cd : Value) (fr : Option Addr) : Env :=
  { scope := sc, locals := L, globals := mainGlobals, cells := cells, qual := q, func := fn, code := cd, frame := fr, builtins := builtinsNs }
/-- a comprehension's table of names -/
def reS (scope sc : Scope) : Scope := { scope with names := scope.names.map fun (n, k) => if (k == .free && sc.kind == .function && sc.names.lookup n == some .cell) then (n, .cell) else (n, k) }
section
variable {C : Cx} {A : Around} {ρ : Rho} {σ : Store} {X : XP} {s : Shared} {sc : Scope} {L : Addr} {cells : List (Str × Addr)} {q : Str} {fn : Option Addr} {cd : Value} {fr : Option Addr}

theorem Ev.nloc {x : Str} {pos : Pos} {v : V} {Q : V → Store → Prop} (hk : sc.names.lookup x = some .local) (hv : ρ.get x = some v) (h : Q v σ) (hd : (x == ("__debug__" : Str)) = false := by kernel_rfl) : Ev C A (mkE sc L cells q fn cd fr) (.Name x pos) ρ σ Q X :=
  Ev.loc hk hv h hd
theorem Ev.ncel {x : Str} {pos : Pos} {v : V} {Q : V → Store → Prop} (hk : sc.names.lookup x = some .cell) (hv : ρ.get x = some v) (h : Q v σ) (hc : (cells.lookup x).isSome = true := by kernel_rfl) (hd : (x == ("__debug__" : Str)) = false := by kernel_rfl) : Ev C A (mkE sc L cells q fn cd fr) (.Name x pos) ρ σ Q X := by
  obtain ⟨c, hc⟩ := Option.isSome_iff_exists.mp hc
  exact Ev.cel hk hc hv h hd
theorem Ev.nglob {x : Str} {pos : Pos} {v : Value} {y : V} {Q : V → Store → Prop} (hk : sc.names.lookup x = some .globalImplicit) (e : nsIn C.K mainGlobals x = some (some v)) (r : VR C.h₀ v y) (h : Q y σ) (hd : (x == ("__debug__" : Str)) = false := by kernel_rfl) :
    Ev C A (mkE sc L cells q fn cd fr) (.Name x pos) ρ σ Q X := Ev.glob hk e r h rfl hd
theorem Ev.nblt {x : Str} {pos : Pos} {v : Value} {y : V} {Q : V → Store → Prop} (hk : sc.names.lookup x = some .globalImplicit) (e : nsIn C.K mainGlobals x = some none) (hv : bootBuiltins x = some v) (r : VR C.h₀ v y) (h : Q y σ) (hn : x ≠ "__name__") (hd : (x == ("__debug__" : Str)) = false := by kernel_rfl) :
    Ev C A (mkE sc L cells q fn cd fr) (.Name x pos) ρ σ Q X := Ev.gblt hk e hv r h hn rfl rfl hd
theorem Asg.nloc {x : Str} {pos : Pos} {y : V} {ρ' : Rho} {Q : Rho → Store → Prop} (hk : sc.names.lookup x = some .local) (hp : ρ.put x y = ρ') (h : Q ρ' σ) (hc : cells.lookup x = none := by kernel_rfl) :
    Asg C A (mkE sc L cells q fn cd fr) (.Name x pos) y ρ σ Q X := Asg.loc hk hc hp h
theorem Asg.ncel {x : Str} {pos : Pos} {y : V} {ρ' : Rho} {Q : Rho → Store → Prop} (hk : sc.names.lookup x = some .cell) (hp : ρ.put x y = ρ') (h : Q ρ' σ) (hc : (cells.lookup x).isSome = true := by kernel_rfl) :
    Asg C A (mkE sc L cells q fn cd fr) (.Name x pos) y ρ σ Q X := by
  obtain ⟨c, hc⟩ := Option.isSome_iff_exists.mp hc
  exact Asg.cel hk hc hp h

theorem Then.next {env : Env} {ss : List Stmt} {Q : FV → Rho → Store → Prop} (h : Exs C A env ss ρ σ Q X) : Then C A env ss Q X .next ρ σ := h
theorem Then.ret {env : Env} {ss : List Stmt} {v : V} {Q : FV → Rho → Store → Prop} (h : Q (.ret v) ρ σ) : Then C A env ss Q X (.ret v) ρ σ := h
/-- a call of a def of the text -/
theorem CallWP.def {f : Addr} {name qual : Str} {params : Arguments} {body : List Stmt} {scope : Scope} {dV kV doc pm cdv ct oc : Value} {an od : Option Addr} {osl : Array (Option Value)} (names : List Str) {args : List V} {Q : V → Store → Prop}
    (ho : C.K.lookup f = some ⟨oc, od, .func (fnOf name qual params body scope dV kV doc pm an cdv ct), osl⟩) (hcd : codeIn C.K cdv qual = true)
    (hroom : A.depth < recursionLimit)
    (hbind : ∀ vals : List Value, vals.length = args.length → bindArgs (fnOf name qual params body scope dV kV doc pm an cdv ct) ⟨vals, []⟩ = pure (names.zip vals)) (nd : names.Nodup)
    (hkind : (names.all fun y => scope.names.lookup y == some .local || scope.names.lookup y == some .cell) = true) (hsc : scopeOk scope = true) (hco : scope.isCoroutine = false) (hgen : scope.isGenerator = false) (hk : scope.kind = .function)
    (h : ∀ L A', A'.handled = A.handled → A'.depth = A.depth + 1 → A'.units = A.units + 3 → Exs C A' (mkE scope L (cellsFrom (L + 1) scope.names []) (qual ++ ".<locals>.") (some f) cdv (some L)) body (names.zip args) σ (fun g _ σ' => Q g.val σ') (fun _ _ => False)) :
    CallWP C A (.ref f) args σ Q X :=
  CallWP.fnK ho hcd hroom (fun L => h L _ rfl rfl rfl) hbind nd hkind hsc hco hgen hk

/-- a comprehension -/
theorem Ev.lcomp {x : Str} {px pos : Pos} {elt iter : Expr} {ifs : List Expr} {scope : Scope} {ρc : Rho} {Q : V → Store → Prop} (cap : Capt ρ scope.names ρc) (hx : scope.names.lookup x = some .local) (hck : compOk scope = true) (hk : scope.kind = .function)
    (h : Src C A (mkE sc L cells q fn cd fr) (.Name x px) iter ρ σ (fun xs ok σ1 => ∀ L', CmpL C A (mkE (reS scope sc) L' (clOf cells scope.names []) q none cd fr) x ifs elt ok ρc (fun out σ2 => ∀ a, σ2 a = Option.none → Q (.ref a) (σ2.upd a (.list out))) xs [] σ1) X)
    (hfree : (scope.names.all fun p => p.2 != .free || (cells.lookup p.1).isSome) = true := by kernel_rfl) 
    (hs : ∀ x, foldedSetIterable iter (mkE sc L cells q fn cd fr) x = Pure.pure x := by intro _; kernel_rfl) : Ev C A (mkE sc L cells q fn cd fr) (.ListComp elt [⟨.Name x px, iter, ifs, 0⟩] scope pos) ρ σ Q X :=
  Ev.comp hfree hck hk hx cap h hs
theorem Ex.lassign {x y : Str} {px py pos spos : Pos} {elt iter : Expr} {ifs : List Expr} {scope : Scope} {ρc : Rho} {Q : FV → Rho → Store → Prop} (cap : Capt ρ scope.names ρc) (hx : scope.names.lookup x = some .local) (hck : compOk scope = true) (hk : scope.kind = .function)
    (hy : sc.names.lookup y = some .local)
    (h : Src C A (mkE sc L cells q fn cd fr) (.Name x px) iter ρ σ (fun xs ok σ1 => ∀ L', CmpL C A (mkE (reS scope sc) L' (clOf cells scope.names []) q none cd fr) x ifs elt ok ρc (fun out σ2 => ∀ a, σ2 a = none → Q .next (ρ.put y (.ref a)) (σ2.upd a (.list out))) xs [] σ1) X)
    (hsw : swapsWith (.ListComp elt [⟨.Name x px, iter, ifs, 0⟩] scope pos) (some (.Name y py)) spos.line (mkE sc L cells q fn cd fr) = pure true := by kernel_rfl)
    (hfree : (scope.names.all fun p => p.2 != .free || (cells.lookup p.1).isSome) = true := by kernel_rfl) (hyc : cells.lookup y = none := by kernel_rfl)
    (hs : ∀ x, foldedSetIterable iter (mkE sc L cells q fn cd fr) x = pure x := by intro _; kernel_rfl) : Ex C A (mkE sc L cells q fn cd fr) (.Assign [.Name y py] (.ListComp elt [⟨.Name x px, iter, ifs, 0⟩] scope pos) spos) ρ σ Q X :=
  Ex.assignComp hfree hck hk hx cap hy hyc h hsw hs

/-- f(args): f a def or a class of the text -/
theorem Ev.callR {func : Expr} {args : List Expr} {pos : Pos} {Q : V → Store → Prop} {env : Env}
    (h : Ev C A env func ρ σ (fun fx σ1 => ∃ f, fx = .ref f ∧ keepIn C.K (.ref f) = true ∧ Ags C A env pos args ρ σ1 (fun xs σ2 => CallWP C A (.ref f) xs σ2 Q X) X) X)
    (hev : eval (.Call func args [] pos) env = (do callWith pos (← eval func env) [] (backTo pos (starEach args env)) (backToKw pos (keywordEach [] env))) := by kernel_rfl)
    (he : (backTo pos (starEach args env)).any (·.1) = false := by kernel_rfl) : Ev C A env (.Call func args [] pos) ρ σ Q X := by
  intro s S F
  rw [hev]
  refine wpAny_bind (wpAny_mono (h s S F) ?_ fun _ _ z => z)
  rintro v s1 ⟨x, σ1, ⟨f, rfl, kp, q⟩, r1, S1, e1⟩
  cases r1
  exact wpAny_mono (callWith_mine (first := []) (fx := []) (Kp.ref kp) S1 (F.evo e1) .nil q he) (fun _ _ z => z.after e1) fun _ _ z => z
/-- f(args): f a built-in, or a built-in class -/
theorem Ev.callB {func : Expr} {args : List Expr} {pos : Pos} {Q : V → Store → Prop} {env : Env}
    (h : Ev C A env func ρ σ (fun fx σ1 => ∃ f, (fx = .blt f ∧ Ags C A env pos args ρ σ1 (fun xs σ2 => CallWP C A (.builtin f) xs σ2 Q X) X) ∨ (fx = .typ f ∧ Ags C A env pos args ρ σ1 (fun xs σ2 => CallWP C A (.type f) xs σ2 Q X) X)) X)
    (hev : eval (.Call func args [] pos) env = (do callWith pos (← eval func env) [] (backTo pos (starEach args env)) (backToKw pos (keywordEach [] env))) := by kernel_rfl)
    (he : (backTo pos (starEach args env)).any (·.1) = false := by kernel_rfl) : Ev C A env (.Call func args [] pos) ρ σ Q X := by
  intro s S F
  rw [hev]
  refine wpAny_bind (wpAny_mono (h s S F) ?_ fun _ _ z => z)
  rintro v s1 ⟨x, σ1, ⟨f, (⟨rfl, q⟩ | ⟨rfl, q⟩)⟩, r1, S1, e1⟩
  · cases r1
    exact wpAny_mono (callWith_mine (first := []) (fx := []) Kp.blt S1 (F.evo e1) .nil q he) (fun _ _ z => z.after e1) fun _ _ z => z
  · cases r1
    exact wpAny_mono (callWith_mine (first := []) (fx := []) Kp.typ S1 (F.evo e1) .nil q he) (fun _ _ z => z.after e1) fun _ _ z => z
end
end Mine
namespace Mine
open PySem PySem.W
theorem CmpL.pure {C : Cx} {A : Around} {env : Env} {x : Str} {ifs : List Expr} {elt : Expr} {ok : Store → Prop} {ρ : Rho} {R : List V → Store → Prop} {σ : Store} (p : V → Bool) (f : V → V) (hok : ok σ) :
    ∀ (ys out : List V), (∀ y ∈ ys, ∀ Q : Bool → Store → Prop, Q (p y) σ → Ifs C A env ifs (ρ.put x y) σ Q (fun _ _ => False)) → (∀ y ∈ ys, p y = true → ∀ Q : V → Store → Prop, Q (f y) σ → Ev C A env elt (ρ.put x y) σ Q (fun _ _ => False)) →
    out.length + ys.length ≤ sizeLine → R (out ++ (ys.filter p).map f) σ → CmpL C A env x ifs elt ok ρ R ys out σ
  | [], out, _, _, _, h => by simpa [CmpL] using h
  | y :: ys, out, h1, h2, hz, h => by
    unfold CmpL
    refine h1 y (.head _) _ ?_
    simp only [List.length_cons] at hz
    cases q : p y with
    | true =>
      simp only [if_true]
      refine h2 y (.head _) q _ ⟨by (first | lia | omega), hok, ?_⟩
      refine CmpL.pure p f hok ys (out ++ [f y]) (fun z hz => h1 z (.tail _ hz)) (fun z hz => h2 z (.tail _ hz)) (by simp; (first | lia | omega)) ?_
      simpa [List.filter_cons, q] using h
    | false =>
      simp only [Bool.false_eq_true, if_false]
      refine ⟨hok, CmpL.pure p f hok ys out (fun z hz => h1 z (.tail _ hz)) (fun z hz => h2 z (.tail _ hz)) (by (first | lia | omega)) ?_⟩
      simpa [List.filter_cons, q] using h
theorem Ifs.nil {C : Cx} {A : Around} {env : Env} {ρ : Rho} {σ : Store} {X : XP} {Q : Bool → Store → Prop} (h : Q true σ) : Ifs C A env [] ρ σ Q X := h
end Mine

/- arities -/
namespace Mine
open PySem PySem.W PySem.SeqAt PyProof.Rows
section
variable {C : Cx} {A : Around} {σ : Store} {X : XP}
theorem lenS {α : Type} {n : Nat} {l : List α} (h : l.length = n + 1) : ∃ a t, l = a :: t ∧ t.length = n := by
  cases l with
  | nil => cases h
  | cons a t => exact ⟨a, t, rfl, Nat.succ.inj h⟩
theorem CallWP.def1 (x1 : Str) {f : Addr} {name qual : Str} {params : Arguments} {body : List Stmt} {scope : Scope} {dV kV doc pm cdv ct oc : Value} {an od : Option Addr} {osl : Array (Option Value)} {v1 : V} {Q : V → Store → Prop}
    (ho : C.K.lookup f = some ⟨oc, od, .func (fnOf name qual params body scope dV kV doc pm an cdv ct), osl⟩) (hcd : codeIn C.K cdv qual = true) (hroom : A.depth < recursionLimit)
    (hbind : ∀ u1 : Value, bindArgs (fnOf name qual params body scope dV kV doc pm an cdv ct) ⟨[u1], []⟩ = pure [(x1, u1)]) (nd : ([x1] : List Str).Nodup)
    (hkind : (([x1] : List Str).all fun y => scope.names.lookup y == some .local || scope.names.lookup y == some .cell) = true) (hsc : scopeOk scope = true) (hco : scope.isCoroutine = false) (hgen : scope.isGenerator = false) (hk : scope.kind = .function)
    (h : ∀ L A', A'.handled = A.handled → A'.depth = A.depth + 1 → A'.units = A.units + 3 → Exs C A' (mkE scope L (cellsFrom (L + 1) scope.names []) (qual ++ ".<locals>.") (some f) cdv (some L)) body [(x1, v1)] σ (fun g _ σ' => Q g.val σ') (fun _ _ => False)) :
    CallWP C A (.ref f) [v1] σ Q X :=
  CallWP.def [x1] (args := [v1]) ho hcd hroom (fun vals hl => by obtain ⟨u1, t1, rfl, h1⟩ := lenS hl; obtain rfl := List.eq_nil_of_length_eq_zero h1; exact hbind u1) nd hkind hsc hco hgen hk h
theorem CallWP.def2 (x1 x2 : Str) {f : Addr} {name qual : Str} {params : Arguments} {body : List Stmt} {scope : Scope} {dV kV doc pm cdv ct oc : Value} {an od : Option Addr} {osl : Array (Option Value)} {v1 v2 : V} {Q : V → Store → Prop}
    (ho : C.K.lookup f = some ⟨oc, od, .func (fnOf name qual params body scope dV kV doc pm an cdv ct), osl⟩) (hcd : codeIn C.K cdv qual = true) (hroom : A.depth < recursionLimit)
    (hbind : ∀ u1 u2 : Value, bindArgs (fnOf name qual params body scope dV kV doc pm an cdv ct) ⟨[u1, u2], []⟩ = pure [(x1, u1), (x2, u2)]) (nd : ([x1, x2] : List Str).Nodup)
    (hkind : (([x1, x2] : List Str).all fun y => scope.names.lookup y == some .local || scope.names.lookup y == some .cell) = true) (hsc : scopeOk scope = true) (hco : scope.isCoroutine = false) (hgen : scope.isGenerator = false) (hk : scope.kind = .function)
    (h : ∀ L A', A'.handled = A.handled → A'.depth = A.depth + 1 → A'.units = A.units + 3 → Exs C A' (mkE scope L (cellsFrom (L + 1) scope.names []) (qual ++ ".<locals>.") (some f) cdv (some L)) body [(x1, v1), (x2, v2)] σ (fun g _ σ' => Q g.val σ') (fun _ _ => False)) :
    CallWP C A (.ref f) [v1, v2] σ Q X :=
  CallWP.def [x1, x2] (args := [v1, v2]) ho hcd hroom (fun vals hl => by obtain ⟨u1, t1, rfl, h1⟩ := lenS hl; obtain ⟨u2, t2, rfl, h2⟩ := lenS h1; obtain rfl := List.eq_nil_of_length_eq_zero h2; exact hbind u1 u2) nd hkind hsc hco hgen hk h
theorem CallWP.def3 (x1 x2 x3 : Str) {f : Addr} {name qual : Str} {params : Arguments} {body : List Stmt} {scope : Scope} {dV kV doc pm cdv ct oc : Value} {an od : Option Addr} {osl : Array (Option Value)} {v1 v2 v3 : V} {Q : V → Store → Prop}
    (ho : C.K.lookup f = some ⟨oc, od, .func (fnOf name qual params body scope dV kV doc pm an cdv ct), osl⟩) (hcd : codeIn C.K cdv qual = true) (hroom : A.depth < recursionLimit)
    (hbind : ∀ u1 u2 u3 : Value, bindArgs (fnOf name qual params body scope dV kV doc pm an cdv ct) ⟨[u1, u2, u3], []⟩ = pure [(x1, u1), (x2, u2), (x3, u3)]) (nd : ([x1, x2, x3] : List Str).Nodup)
    (hkind : (([x1, x2, x3] : List Str).all fun y => scope.names.lookup y == some .local || scope.names.lookup y == some .cell) = true) (hsc : scopeOk scope = true) (hco : scope.isCoroutine = false) (hgen : scope.isGenerator = false) (hk : scope.kind = .function)
    (h : ∀ L A', A'.handled = A.handled → A'.depth = A.depth + 1 → A'.units = A.units + 3 → Exs C A' (mkE scope L (cellsFrom (L + 1) scope.names []) (qual ++ ".<locals>.") (some f) cdv (some L)) body [(x1, v1), (x2, v2), (x3, v3)] σ (fun g _ σ' => Q g.val σ') (fun _ _ => False)) :
    CallWP C A (.ref f) [v1, v2, v3] σ Q X :=
  CallWP.def [x1, x2, x3] (args := [v1, v2, v3]) ho hcd hroom (fun vals hl => by obtain ⟨u1, t1, rfl, h1⟩ := lenS hl; obtain ⟨u2, t2, rfl, h2⟩ := lenS h1; obtain ⟨u3, t3, rfl, h3⟩ := lenS h2; obtain rfl := List.eq_nil_of_length_eq_zero h3; exact hbind u1 u2 u3) nd hkind hsc hco hgen hk h
theorem CallWP.def4 (x1 x2 x3 x4 : Str) {f : Addr} {name qual : Str} {params : Arguments} {body : List Stmt} {scope : Scope} {dV kV doc pm cdv ct oc : Value} {an od : Option Addr} {osl : Array (Option Value)} {v1 v2 v3 v4 : V} {Q : V → Store → Prop}
    (ho : C.K.lookup f = some ⟨oc, od, .func (fnOf name qual params body scope dV kV doc pm an cdv ct), osl⟩) (hcd : codeIn C.K cdv qual = true) (hroom : A.depth < recursionLimit)
    (hbind : ∀ u1 u2 u3 u4 : Value, bindArgs (fnOf name qual params body scope dV kV doc pm an cdv ct) ⟨[u1, u2, u3, u4], []⟩ = pure [(x1, u1), (x2, u2), (x3, u3), (x4, u4)]) (nd : ([x1, x2, x3, x4] : List Str).Nodup)
    (hkind : (([x1, x2, x3, x4] : List Str).all fun y => scope.names.lookup y == some .local || scope.names.lookup y == some .cell) = true) (hsc : scopeOk scope = true) (hco : scope.isCoroutine = false) (hgen : scope.isGenerator = false) (hk : scope.kind = .function)
    (h : ∀ L A', A'.handled = A.handled → A'.depth = A.depth + 1 → A'.units = A.units + 3 → Exs C A' (mkE scope L (cellsFrom (L + 1) scope.names []) (qual ++ ".<locals>.") (some f) cdv (some L)) body [(x1, v1), (x2, v2), (x3, v3), (x4, v4)] σ (fun g _ σ' => Q g.val σ') (fun _ _ => False)) :
    CallWP C A (.ref f) [v1, v2, v3, v4] σ Q X :=
  CallWP.def [x1, x2, x3, x4] (args := [v1, v2, v3, v4]) ho hcd hroom (fun vals hl => by obtain ⟨u1, t1, rfl, h1⟩ := lenS hl; obtain ⟨u2, t2, rfl, h2⟩ := lenS h1; obtain ⟨u3, t3, rfl, h3⟩ := lenS h2; obtain ⟨u4, t4, rfl, h4⟩ := lenS h3; obtain rfl := List.eq_nil_of_length_eq_zero h4; exact hbind u1 u2 u3 u4) nd hkind hsc hco hgen hk h
end
end Mine

set_option autoImplicit false
set_option linter.unusedVariables false
namespace Mine
open PySem PySem.W PySem.SeqAt PyProof.Rows

theorem Rho.gp_hit {x : Str} {v : V} {r : Rho} : Rho.get (Rho.put r x v) x = some v := by rw [Rho.get_put]; simp
theorem Rho.gp_miss {x y : Str} {v : V} {u : Option V} {r : Rho} (h : y ≠ x) (k : Rho.get r y = u) : Rho.get (Rho.put r x v) y = u := by rw [Rho.get_put, if_neg h, k]

section
variable {C : Cx} {A : Around} {env : Env} {ρ : Rho} {σ : Store} {X : XP} {s : Shared}

/- {"a": .., "b": ..} -/
inductive KVR (h : Heap) : List (Value × Value) → List (Str × V) → Prop
  | nil : KVR h [] []
  | cons {k : Str} {t : Tok} {v : Value} {x : V} {r : List (Value × Value)} {r' : List (Str × V)} : VR h v x → KVR h r r' → KVR h ((.str k t, v) :: r) ((k, x) :: r')
def Prs (C : Cx) (A : Around) (env : Env) (pos : Pos) (ks : List (Option Expr)) (vs : List Expr) (ρ : Rho) (σ : Store) (Q : List (Str × V) → Store → Prop) (X : XP) : Prop :=
  ∀ s, St C σ s → Fm C σ s.heap env ρ → wpAny C.M A (evalPairs (pairTrees ks vs env pos)) (fun r s' => ∃ xs σ', Q xs σ' ∧ KVR s'.heap r xs ∧ St C σ' s' ∧ Evo σ s.heap σ' s'.heap) X s
/- pop() -/
/- all(), any() over a list of truths -/
theorem kept_it {h' : Heap} {o : Obj} (hk : ∀ b x, b ∉ [s.heap.objs.size] → (s.heap.push o).get? b = some x → h'.get? b = some x) : ∀ b x, s.heap.get? b = some x → h'.get? b = some x :=
  fun b x e => hk b x (fun hm => by rw [List.mem_singleton.mp hm] at e; exact Nat.lt_irrefl _ (Heap.lt_size e)) (Heap.get?_push_of_some _ e)
theorem bools_get {h : Heap} {vs : List Value} {bs : List Bool} (r : VRs h vs (bs.map V.bool)) {i : Nat} {v : Value} (e : vs[i]? = some v) : ∃ b, bs[i]? = some b ∧ v = .bool b := by
  have hl := r.length
  have : i < vs.length := (List.getElem?_eq_some_iff.mp e).1
  have hb : i < bs.length := by simpa [hl] using this
  obtain ⟨u, hu, ru⟩ := r.get (show (bs.map V.bool)[i]? = some (V.bool bs[i]) by simp [hb])
  rw [hu] at e; cases e
  cases ru
  exact ⟨bs[i], by simp [hb], rfl⟩
theorem CallWP.all {l : Addr} {bs : List Bool} {Q : V → Store → Prop} (hh : A.handled = none) (hl : LstAt C σ l (bs.map V.bool)) (h : Q (.bool (bs.all id)) σ) : CallWP C A (.builtin "all") [.ref l] σ Q X := by
  intro s vs S r
  obtain ⟨_, rfl, r1⟩ := r.one
  obtain rfl := r1.refI
  obtain ⟨items, il, rl⟩ := hl.raw S
  have el := rl.length
  simp only [Array.length_toList, List.length_map] at el
  have hlt : l < s.heap.objs.size := by obtain ⟨_, e, _⟩ := il; exact Heap.lt_size e
  refine call_all_walk (wpAny_pyIter_list il ?_)
  refine ⟨s.heap.objs.size, [s.heap.objs.size, l], [s.heap.objs.size], items.size, _, _, fun i => (bs[i]?).getD true, rfl, Walks.list (A := A.in1) hh _ l (Nat.ne_of_lt hlt) items,
    ⟨⟨_, Heap.get?_push_size _ rfl, rfl, rfl⟩, il.push _⟩, fun i v s' Q' E' hP hQ => ?_, fun h' tk hk => ?_⟩
  · obtain ⟨b, e, rfl⟩ := bools_get rl (by simpa using hP)
    simp only [e, Option.getD_some] at hQ
    exact wpAny_truthy_bool hQ
  · have e : ((List.range items.size).all fun i => (bs[i]?).getD true) = bs.all id := by
      rw [el]; exact PyProof.Rows.LSm.range_all bs
    rw [e]
    exact ⟨_, σ, h, .bool _, S.ext (kept_it hk), .ext (kept_it hk)⟩
theorem small_le {n : Nat} (h : Nat.ble n sizeLine = true) : n ≤ sizeLine := Nat.le_of_ble_eq_true h
theorem Szs.mk {xs : List V} {P : Prop} (h : xs.length ≤ sizeLine) (k : P) : xs.length ≤ sizeLine ∧ P := ⟨h, k⟩
theorem Br.t {b : Bool} {p q : Prop} (hb : b = true) (h : p) : if b = true then p else q := by rw [if_pos hb]; exact h
theorem Br.f {b : Bool} {p q : Prop} (hb : b = false) (h : q) : if b = true then p else q := by rw [if_neg (by simp [hb])]; exact h
theorem ItemWP.tup0 {x : V} {xs : List V} {Q : V → Store → Prop} (h : Q x σ) : ItemWP C A (.tup (x :: xs)) (.int 0) σ Q X :=
  ItemWP.tup (j := 0) (by decide) (by decide) (by rw [seqIndex_of (by (first | lia | omega)) (by simp)]; rfl) rfl h
theorem ItemWP.tup1 {x y : V} {xs : List V} {Q : V → Store → Prop} (h : Q x σ) : ItemWP C A (.tup (y :: x :: xs)) (.int 1) σ Q X :=
  ItemWP.tup (j := 1) (by decide) (by decide) (by rw [seqIndex_of (by (first | lia | omega)) (by simp; (first | lia | omega))]; rfl) rfl h
theorem ItemWP.tup2 {x y z : V} {xs : List V} {Q : V → Store → Prop} (h : Q x σ) : ItemWP C A (.tup (y :: z :: x :: xs)) (.int 2) σ Q X :=
  ItemWP.tup (j := 2) (by decide) (by decide) (by rw [seqIndex_of (by (first | lia | omega)) (by simp; (first | lia | omega))]; rfl) rfl h
theorem ItemWP.tup3 {x y z u : V} {xs : List V} {Q : V → Store → Prop} (h : Q x σ) : ItemWP C A (.tup (y :: z :: u :: x :: xs)) (.int 3) σ Q X :=
  ItemWP.tup (j := 3) (by decide) (by decide) (by rw [seqIndex_of (by (first | lia | omega)) (by simp; (first | lia | omega))]; rfl) rfl h
theorem ItemWP.tup4 {x y z u w : V} {xs : List V} {Q : V → Store → Prop} (h : Q x σ) : ItemWP C A (.tup (y :: z :: u :: w :: x :: xs)) (.int 4) σ Q X :=
  ItemWP.tup (j := 4) (by decide) (by decide) (by rw [seqIndex_of (by (first | lia | omega)) (by simp; (first | lia | omega))]; rfl) rfl h
end
end Mine

set_option autoImplicit false
set_option linter.unusedVariables false
namespace Mine
open PySem PySem.W PySem.SeqAt PyProof.Rows

/- stores -/
def Grow (σ σ' : Store) : Prop := ∀ b o, σ b = some o → σ' b = some o
theorem Grow.rfl' {σ : Store} : Grow σ σ := fun _ _ e => e
theorem Grow.trans {σ1 σ2 σ3 : Store} (a : Grow σ1 σ2) (b : Grow σ2 σ3) : Grow σ1 σ3 := fun x o e => b x o (a x o e)
theorem Store.hit {σ : Store} {a : Addr} {o : O} : (σ.upd a o) a = some o := by simp [Store.upd]
theorem Store.miss {σ : Store} {a b : Addr} {o : O} {r : Option O} (h : b ≠ a) (k : σ b = r) : (σ.upd a o) b = r := by simp [Store.upd, h, k]
theorem Store.at_fresh {σ : Store} {a b : Addr} {o o' : O} (h : σ a = none) (k : σ b = some o') : (σ.upd a o) b = some o' := Store.miss (fun e => by rw [e, h] at k; cases k) k
theorem Grow.fresh {σ σ' : Store} {a : Addr} {o : O} (g : Grow σ σ') (h : σ' a = none) : Grow σ (σ'.upd a o) := fun b o' e => Store.at_fresh h (g b o' e)
theorem Grow.upd {σ σ' : Store} {a : Addr} {o : O} (g : Grow σ σ') (h : σ a = none) : Grow σ (σ'.upd a o) := fun b o' e => Store.miss (fun q => by rw [q, h] at e; cases e) (g b o' e)
theorem Grow.none {σ σ' : Store} {a : Addr} (g : Grow σ σ') (h : σ' a = none) : σ a = none := by
  cases q : σ a with
  | none => rfl
  | some o => rw [g a o q] at h; cases h

section
variable {C : Cx} {A : Around} {env : Env} {ρ : Rho} {σ : Store} {X : XP} {s : Shared}
theorem Asg.mono {t : Expr} {x : V} {Q Q' : Rho → Store → Prop} (h : Asg C A env t x ρ σ Q X) (k : ∀ ρ σ, Q ρ σ → Q' ρ σ) : Asg C A env t x ρ σ Q' X := by
  intro s v S F r
  refine wpAny_mono (h s v S F r) ?_ fun _ _ z => z
  rintro _ s1 ⟨ρ1, σ1, q, rest⟩
  exact ⟨ρ1, σ1, k _ _ q, rest⟩

theorem TyGo.mk {x : V} {T : String} {P : Prop} (h : TyV C σ x T) (k : P) : TyV C σ x T ∧ P := ⟨h, k⟩
theorem Eqs.mk {x y : V} {P : Prop} (h : x = y) (k : P) : x = y ∧ P := ⟨h, k⟩
theorem LstAt.st {l : Addr} {xs : List V} (h : σ l = some (.list xs)) : LstAt C σ l xs := .inl h
/-- what a loop's body owes -/
def LpQ (ok : Store → Prop) (J : Rho → Store → Prop) (Q : FV → Rho → Store → Prop) (g : FV) (ρ : Rho) (σ : Store) : Prop :=
  match g with
  | .next | .cont => ok σ ∧ J ρ σ
  | .brk => Q .next ρ σ
  | .ret v => Q (.ret v) ρ σ
theorem LpQ.n {ok : Store → Prop} {J : Rho → Store → Prop} {Q : FV → Rho → Store → Prop} (h : ok σ ∧ J ρ σ) : LpQ ok J Q .next ρ σ := h
theorem LpQ.r {ok : Store → Prop} {J : Rho → Store → Prop} {Q : FV → Rho → Store → Prop} {v : V} (h : Q (.ret v) ρ σ) : LpQ ok J Q (.ret v) ρ σ := h

theorem ForL.inv {α : Type} {target : Expr} {body : List Stmt} {ok : Store → Prop} {Q : FV → Rho → Store → Prop} (enc : α → V) (I : List α → Rho → Store → Prop)
    (step : ∀ x xs ρ σ, I (x :: xs) ρ σ → Asg C A env target (enc x) ρ σ (fun ρ1 σ1 => Exs C A env body ρ1 σ1 (LpQ ok (I xs) Q) (fun _ _ => False)) (fun _ _ => False))
    (done : ∀ ρ σ, I [] ρ σ → Q .next ρ σ) : ∀ xs ρ σ, I xs ρ σ → ForL C A env target body ok Q (xs.map enc) ρ σ
  | [], ρ, σ, h => done ρ σ h
  | x :: xs, ρ, σ, h => by
    refine (step x xs ρ σ h).mono fun ρ1 σ1 h1 => h1.mono fun g ρ2 σ2 h2 => ?_
    cases g with
    | next => exact ⟨h2.1, ForL.inv enc I step done xs ρ2 σ2 h2.2⟩
    | cont => exact ⟨h2.1, ForL.inv enc I step done xs ρ2 σ2 h2.2⟩
    | brk => exact h2
    | ret v => exact h2

theorem Ev.mono' {e : Expr} {Q Q' : V → Store → Prop} (h : Ev C A env e ρ σ Q X) (k : ∀ x σ, Q x σ → Q' x σ) : Ev C A env e ρ σ Q' X := by
  intro s S F
  refine wpAny_mono (h s S F) ?_ fun _ _ z => z
  rintro _ s1 ⟨x, σ1, q, r1, r2, r3⟩
  exact ⟨x, σ1, k _ _ q, r1, r2, r3⟩
theorem CmpL.inv {α : Type} {x : Str} {elt : Expr} {ok : Store → Prop} {R : List V → Store → Prop} (enc : α → V) (I : List α → List V → Store → Prop)
    (step : ∀ y ys out σ, I (y :: ys) out σ → Ev C A env elt (ρ.put x (enc y)) σ (fun z σ2 => out.length ≤ sizeLine ∧ ok σ2 ∧ I ys (out ++ [z]) σ2) (fun _ _ => False))
    (done : ∀ out σ, I [] out σ → R out σ) : ∀ ys out σ, I ys out σ → CmpL C A env x [] elt ok ρ R (ys.map enc) out σ
  | [], out, σ, h => done out σ h
  | y :: ys, out, σ, h => by
    unfold CmpL
    exact Ifs.nil ((step y ys out σ h).mono' fun z σ2 h2 => ⟨h2.1, h2.2.1, CmpL.inv enc I step done ys _ σ2 h2.2.2⟩)
end
end Mine

set_option autoImplicit false
set_option linter.unusedVariables false
namespace Mine
open PySem PySem.W PySem.SeqAt PyProof.Rows

/- texts: their length and their code points -/
theorem strOk_iff {x : Str} : PySem.PyData.strOk x = true ↔ ∀ c ∈ x.cps.toList, c < 0x110000 := by
  unfold PySem.PyData.strOk
  rw [Array.all_eq_true_iff_forall_mem]
  simp
theorem strOk_ofString (s : String) : PySem.PyData.strOk (Str.ofString s) = true := by
  rw [strOk_iff]
  intro c hc
  rw [Str.ofString_eq_toList] at hc
  simp only [List.mem_map, List.toList_toArray] at hc
  obtain ⟨d, _, rfl⟩ := hc
  have := d.valid
  simp only [UInt32.isValidChar, Nat.isValidChar] at this
  simp only [Char.toNat]
  (first | lia | omega)
end Mine

namespace Mine
open PySem PySem.W PySem.SeqAt PyProof.Rows
section
variable {C : Cx} {A : Around} {σ : Store} {X : XP}
theorem sget_hit {x : Str} {v : V} {r : List (Str × V)} : sget ((x, v) :: r) x = some v := by simp [sget]
theorem CallWP.range1 {n : Int} {Q : V → Store → Prop} (h : Q (.rng 0 n) σ) : CallWP C A (.type "range") [.int n] σ Q X := by
  intro s vs S r
  obtain ⟨_, rfl, r1⟩ := r.one
  obtain ⟨_, rfl⟩ := r1.intI
  exact call_range_1 ⟨.rng 0 n, σ, h, .rng (IsRange.new _ _ _ _ _ _ _), S.push, .push⟩
theorem intMul_l {a b : Int} (h1 : -(2 ^ 64) < a) (h2 : a < 2 ^ 64) : IntMulOk a b := IntMulOk.of_left (intBits_le_64 h1 h2)
theorem intMul_r {a b : Int} (h1 : -(2 ^ 64) < b) (h2 : b < 2 ^ 64) : IntMulOk a b := IntMulOk.of_right (intBits_le_64 h1 h2)
end
end Mine

set_option autoImplicit false
set_option linter.unusedVariables false
namespace Mine
open PySem PySem.W PySem.SeqAt PyProof.Rows
section
variable {C : Cx} {A : Around} {σ : Store} {X : XP}
/- plain data -/
theorem DRs.map {α : Type} {f : α → V} {g : α → PyData} : ∀ {xs : List α}, (∀ x ∈ xs, DR C σ (f x) (g x)) → DRs C σ (xs.map f) (xs.map g)
  | [], _ => .nil
  | x :: xs, h => .cons (h x (.head _)) (DRs.map fun y hy => h y (.tail _ hy))
theorem canLayAll_map {α : Type} {g : α → PyData} : ∀ {xs : List α}, (∀ x ∈ xs, (g x).canLay0 = true) → PyData.canLayAll0 (xs.map g) = true
  | [], _ => by simp [PyData.canLayAll0]
  | x :: xs, h => by simp [PyData.canLayAll0, h x (.head _), canLayAll_map fun y hy => h y (.tail _ hy)]
theorem depthAll_map {α : Type} {g : α → PyData} {k : Nat} : ∀ {xs : List α}, (∀ x ∈ xs, (g x).depth ≤ k) → PyData.depthAll (xs.map g) ≤ k
  | [], _ => by simp [PyData.depthAll]
  | x :: xs, h => by
    have h1 := h x (.head _)
    have h2 := depthAll_map (xs := xs) fun y hy => h y (.tail _ hy)
    simp only [List.map_cons, PyData.depthAll]; (first | lia | omega)
theorem isi_t {x : V} {t : Ty} {U : String} {Q : V → Store → Prop} (ht : HasTy C σ x t) (hU : (U = "int" ∨ U = "bool" ∨ U = "str" ∨ U = "list" ∨ U = "tuple")) {b : Bool} (hb : isiB t U = b) (h : Q (.bool b) σ) : CallWP C A (.builtin "isinstance") [x, .typ U] σ Q X :=
  CallWP.isi ht hU (by rw [hb]; exact h)
end
end Mine

set_option autoImplicit false
set_option linter.unusedVariables false
namespace Mine
open PySem PySem.W PySem.SeqAt PyProof.Rows
section
variable {C : Cx} {A : Around} {env : Env} {ρ : Rho} {σ : Store} {X : XP} {s : Shared}
/- a, b, c = x, y, z -/
def AsgN (C : Cx) (A : Around) (env : Env) (ns : List Str) (xs : List V) (ρ : Rho) (σ : Store) (Q : Rho → Store → Prop) (X : XP) : Prop :=
  ∀ s vs, St C σ s → Fm C σ s.heap env ρ → VRs s.heap vs xs → wpAny C.M A (assignInOrder (ns.map fun n => bindName env n) vs) (fun _ s' => ∃ ρ' σ', Q ρ' σ' ∧ St C σ' s' ∧ Fm C σ' s'.heap env ρ' ∧ EvoF env σ s.heap σ' s'.heap) X s
theorem Store.none_ne {σ : Store} {a b : Addr} {o : O} (h : (σ.upd b o) a = none) : a ≠ b ∧ σ a = none := by
  by_cases q : a = b
  · subst q; simp [Store.upd] at h
  · exact ⟨q, by simpa [Store.upd, q] using h⟩
end
end Mine

namespace Mine
open PySem PySem.W
section
variable {C : Cx} {A : Around} {env : Env} {ρ : Rho} {σ : Store} {X : XP}
end
end Mine

set_option autoImplicit false
set_option linter.unusedVariables false
namespace Mine
open PySem PySem.W
/- which kind of goal stands: one quick look each -/
section
variable {C : Cx} {A : Around} {env : Env} {ρ : Rho} {σ : Store} {X : XP}
end
end Mine

set_option autoImplicit false
set_option linter.unusedVariables false
namespace Mine
open PySem PySem.W PyProof.Rows

/- the sort's questions answered by a weak order: its answer is sorted and stable -/
structure SWO (lt : Nat → Nat → Bool) : Prop where
  irr : ∀ i, lt i i = false
  tr : ∀ i j k, lt i j = true → lt j k = true → lt i k = true
  nt : ∀ i j k, lt i j = false → lt j k = false → lt i k = false
def slt (lt : Nat → Nat → Bool) (i j : Nat) : Prop := lt i j = true ∨ (lt j i = false ∧ i < j)
section
variable {lt : Nat → Nat → Bool}
def Srt (lt : Nat → Nat → Bool) (p : Nat → Nat) (n : Nat) : Prop := ∀ i j, i < j → j < n → slt lt (p i) (p j)
structure Idn (p : Nat → Nat) (n N : Nat) : Prop where
  rest : ∀ k, n ≤ k → k < N → p k = k
  low : ∀ k, k < n → p k < n
abbrev fn (P : Array Nat) (k : Nat) : Nat := P.getD k 0
variable {cmp : Nat → Nat → (Bool → Shared → Prop) → Shared → Prop} {s : Shared} {N : Nat}
/-- P: the array's state -/
structure PA (P : Array Nat) (N : Nat) : Prop where
  sz : P.size = N
  pm : P.toList.Perm (List.range N)
/-- falling so far, the last run of equals apart -/
structure Dsc (lt : Nat → Nat → Bool) (p : Nat → Nat) (b n : Nat) : Prop where
  i1 : ∀ i j, i < j → j < b → slt lt (p j) (p i)
  i2 : ∀ i j, i < b → b ≤ j → j < n → lt (p j) (p i) = true
  i3 : ∀ i j, b ≤ i → i < j → j < n → p i < p j ∧ lt (p i) (p j) = false ∧ lt (p j) (p i) = false
end
end Mine

set_option autoImplicit false
set_option linter.unusedVariables false
set_option maxRecDepth 100000
namespace Mine
open PySem PySem.W PySem.SeqAt PyProof.Rows

/- pairs of numbers in their order -/
def pv (p : Int × Int) : V := .tup [.int p.1, .int p.2]
def lexlt (p q : Int × Int) : Bool := decide (p.1 < q.1) || (p.1 == q.1 && decide (p.2 < q.2))
section
variable {prog : Program} {w : World} {A : Around} {E : Value → Shared → Prop} {s : Shared}
end
def PairAt (h : Heap) (v : Value) (p : Int × Int) : Prop := ∃ a t u n, v = .ref a ∧ h.get? a = some (tupObj #[.int p.1 t, .int p.2 u] n)
section
variable {prog : Program} {w : World} {A : Around} {E : Value → Shared → Prop} {s : Shared}
end
/- sorted() -/
section
variable {prog : Program} {w : World} {A : Around} {E : Value → Shared → Prop} {s : Shared}
end
section
variable {C : Cx} {A : Around} {env : Env} {ρ : Rho} {σ : Store} {X : XP} {s : Shared}
end
section
variable {C : Cx} {A : Around} {env : Env} {ρ : Rho} {σ : Store} {X : XP} {s : Shared}
/- attributes of own objects, step by step -/
def AttrWP (C : Cx) (x : V) (name : Str) (σ1 : Store) (Q : V → Store → Prop) : Prop := ∃ a c dx es y attr, x = .ref a ∧ σ1 a = some (.inst c dx) ∧ σ1 dx = some (.sd es) ∧ sget es name = some y ∧ plainGet C.K c name = true ∧ hasDictIn C.K c = true ∧
      findIn C.K (.ref c) name = some attr ∧ noGet C.K attr = true ∧ (∀ i, y ≠ .blt i) ∧ Q y σ1
theorem Ev.attr' {o : Expr} {name : Str} {pos : Pos} {Q : V → Store → Prop} (h : Ev C A env o ρ σ (fun x σ1 => AttrWP C x name σ1 Q) X)
    (hbase : attributeBase o name env (eval o env) = eval o env := by kernel_rfl) : Ev C A env (.Attribute o name pos) ρ σ Q X := Ev.attr h hbase
theorem AttrWP.mk {a c dx : Addr} {es : List (Str × V)} {y : V} {attr : Option Value} {name : Str} {Q : V → Store → Prop} (h1 : σ a = some (.inst c dx)) (h2 : σ dx = some (.sd es)) (h3 : sget es name = some y) (k1 : plainGet C.K c name = true) (k2 : hasDictIn C.K c = true)
    (k3 : findIn C.K (.ref c) name = some attr) (k4 : noGet C.K attr = true) (k5 : ∀ i, y ≠ .blt i) (h : Q y σ) : AttrWP C (.ref a) name σ Q :=
  ⟨a, c, dx, es, y, attr, rfl, h1, h2, h3, k1, k2, k3, k4, k5, h⟩
def MethWP (C : Cx) (A : Around) (env : Env) (pos : Pos) (args : List Expr) (ρ : Rho) (x : V) (name : Str) (σ1 : Store) (Q : V → Store → Prop) (X : XP) : Prop := ∃ a c dx es f, x = .ref a ∧ σ1 a = some (.inst c dx) ∧ σ1 dx = some (.sd es) ∧ sget es name = none ∧ plainGet C.K c name = true ∧
      findIn C.K (.ref c) name = some (some (.ref f)) ∧ isFn C.K (.ref f) = true ∧ keepIn C.K (.ref f) = true ∧ Ags C A env pos args ρ σ1 (fun xs σ2 => CallWP C A (.ref f) (.ref a :: xs) σ2 Q X) X
def SAttWP (C : Cx) (x : V) (name : Str) (y : V) (σ1 : Store) (Q : Store → Prop) : Prop := ∃ a c dx es, x = .ref a ∧ σ1 a = some (.inst c dx) ∧ σ1 dx = some (.sd es) ∧ es.length ≤ 1000 ∧
      findIn C.K (.ref c) "__setattr__" = some (some (.builtin "object.__setattr__")) ∧ plainOver C.K c = true ∧ takerIn C.K c name = some none ∧ hasDictIn C.K c = true ∧ Q (σ1.upd dx (.sd (sput es name y)))
theorem Asg.attr' {o : Expr} {name : Str} {pos : Pos} {y : V} {Q : Rho → Store → Prop} (h : Ev C A env o ρ σ (fun x σ1 => SAttWP C x name y σ1 (fun σ2 => Q ρ σ2)) X) : Asg C A env (.Attribute o name pos) y ρ σ Q X := Asg.attr h
theorem SAttWP.mk {a c dx : Addr} {es : List (Str × V)} {y : V} {name : Str} {Q : Store → Prop} (h1 : σ a = some (.inst c dx)) (h2 : σ dx = some (.sd es)) (h3 : es.length ≤ 1000) (k1 : findIn C.K (.ref c) "__setattr__" = some (some (.builtin "object.__setattr__")))
    (k2 : plainOver C.K c = true) (k3 : takerIn C.K c name = some none) (k4 : hasDictIn C.K c = true) {es' : List (Str × V)} (hp : sput es name y = es') (h : Q (σ.upd dx (.sd es'))) : SAttWP C (.ref a) name y σ Q :=
  ⟨a, c, dx, es, rfl, h1, h2, h3, k1, k2, k3, k4, hp ▸ h⟩
theorem sput_nil {x : Str} {v : V} : sput [] x v = [(x, v)] := rfl
/- making an own object -/
def CodC (C : Cx) (A : Around) (f : Value) (args : List V) (σ : Store) (Q : V → Store → Prop) : Prop :=
  ∀ s vs, St C σ s → VRs s.heap vs args → codeAny C.M A (.call f ⟨vs, []⟩) (fun r s' => match r with | .ok (.ret v) => EP C σ s.heap Q v s' | _ => False) s
/- slices of lists -/
theorem pick_range {α : Type} (xs : List α) : ∀ (k n : Nat), k + n ≤ xs.length → ((List.range n).map fun i => k + i).filterMap (xs[·]?) = (xs.drop k).take n
  | k, 0, _ => by simp
  | k, n + 1, h => by
    have hk : k < xs.length := by (first | lia | omega)
    have ih := pick_range xs (k + 1) n (by (first | lia | omega))
    rw [List.range_succ_eq_map, List.map_cons, List.map_map, List.filterMap_cons]
    have e0 : xs[k + 0]? = some xs[k] := by simp [hk]
    rw [e0]
    have e1 : (List.range n).map ((fun i => k + i) ∘ Nat.succ) = (List.range n).map fun i => k + 1 + i := List.map_congr_left fun i _ => by simp only [Function.comp]; (first | lia | omega)
    rw [e1, ih, List.drop_eq_getElem_cons hk, List.take_succ_cons]

theorem pySlice_upto {α : Type} (xs : List α) (k : Nat) (h : k ≤ xs.length) : pySlice xs none (some (k : Int)) = xs.take k := by
  unfold pySlice
  have e : sliceBounds none (some (k : Int)) none xs.length = (((0 : Nat) : Int), ((k : Nat) : Int), 1) := by
    simp only [sliceBounds, Option.getD_none]
    have : ¬ ((k : Int) < 0) := by (first | lia | omega)
    simp [this]; (first | lia | omega)
  rw [e]
  simp only
  rw [sliceRange_one, pick_range xs 0 (k - 0) (by (first | lia | omega))]
  simp
/- dict.pop(key) -/
def idel (es : List (Int × V)) (k : Int) : List (Int × V) := es.filter fun p => !decide (p.1 = k)
end
end Mine

set_option autoImplicit false
set_option linter.unusedVariables false
set_option maxRecDepth 100000
set_option maxHeartbeats 4000000
namespace Mine
open PySem PySem.W PySem.SeqAt PyProof.Rows PySem.Calls

def CodeAt (h : Heap) (c : Addr) (q : Str) : Prop := ∃ o vs t, h.get? c = some o ∧ o.cls = .type "code" ∧ o.data = .fields vs ∧ vs[1]? = some (.str q t)
def LamAt (h : Heap) (f : Addr) (params : Arguments) (body : Expr) (scope : Scope) (clos : List (Str × Addr)) (q : Str) : Prop :=
  ∃ pm c' ctv, h.get? f = some (kla_obj "<lambda>" q params body scope clos pm c' ctv) ∧ CodeAt h c' q
def BMod (C : Cx) : Prop := ∃ bm ob, C.mg "__builtins__" = some (.ref bm) ∧ bm ≠ builtinsNs ∧ C.h₀.get? bm = some ob ∧ ob.cls = .type "module" ∧ ob.dict = some builtinsNs ∧ ob.data = .plain

section
variable {C : Cx} {A : Around} {env : Env} {ρ : Rho} {σ : Store} {X : XP} {s : Shared}
def lamOk (scope : Scope) : Bool := scope.names.all fun p => p.2 != .cell && (p.2 != .free || scope.names.lookup p.1 == some .free)
end
end Mine

set_option autoImplicit false
set_option linter.unusedVariables false
set_option maxRecDepth 100000
set_option maxHeartbeats 4000000
namespace Mine
open PySem PySem.W PySem.SeqAt PyProof.Rows PySem.Calls
section
variable {C : Cx} {A : Around} {ρ : Rho} {σ : Store} {X : XP} {s : Shared}
end
end Mine

set_option autoImplicit false
set_option linter.unusedVariables false
set_option maxRecDepth 100000
namespace Mine
open PySem PySem.W PySem.SeqAt PyProof.Rows
section
variable {C : Cx} {A : Around} {env : Env} {ρ : Rho} {σ : Store} {X : XP} {s : Shared}
theorem Br.both {b : Bool} {p q : Prop} (h1 : p) (h2 : q) : if b = true then p else q := by split <;> assumption
theorem Exs.cut {st : Stmt} {ss : List Stmt} {Q : FV → Rho → Store → Prop} (P : Rho → Store → Prop) (h1 : Ex C A env st ρ σ (fun g ρ' σ' => g = .next ∧ P ρ' σ') X) (h2 : ∀ ρ' σ', P ρ' σ' → Exs C A env ss ρ' σ' Q X) : Exs C A env (st :: ss) ρ σ Q X :=
  Exs.cons (h1.mono fun g ρ' σ' ⟨e, p⟩ => by subst e; exact h2 ρ' σ' p)
/- slices: of a list, of a text -/
def SliceWP (C : Cx) (o : V) (a b : Option Int) (σ3 : Store) (Q : V → Store → Prop) : Prop :=
  (∃ l xs, o = .ref l ∧ LstAt C σ3 l xs ∧ xs.length ≤ sizeLine ∧ ∀ c, σ3 c = Option.none → Q (.ref c) (σ3.upd c (.list (pySlice xs a b)))) ∨
  (∃ x, o = .str x ∧ x.length ≤ sizeLine ∧ Q (.str (Txt.slice x a b)) σ3)
theorem SliceWP.list {l : Addr} {xs : List V} {a b : Option Int} {Q : V → Store → Prop} (hl : LstAt C σ l xs) (hz : xs.length ≤ sizeLine) (h : ∀ c, σ c = Option.none → Q (.ref c) (σ.upd c (.list (pySlice xs a b)))) : SliceWP C (.ref l) a b σ Q :=
  .inl ⟨l, xs, rfl, hl, hz, h⟩
theorem SliceWP.str {x : Str} {a b : Option Int} {Q : V → Store → Prop} (hz : x.length ≤ sizeLine) (h : Q (.str (Txt.slice x a b)) σ) : SliceWP C (.str x) a b σ Q := .inr ⟨x, rfl, hz, h⟩
theorem IsPart.opt {v : Value} {k : Option Int} (p : IsPart v k) : ∃ l : Option (Int × Tok), v = partValue l ∧ l.map (·.1) = k := by
  cases p with
  | none => exact ⟨none, rfl, rfl⟩
  | int i t => exact ⟨some (i, t), rfl, rfl⟩
theorem Ev.slice {value : Expr} {lo hi : Option Expr} {p pos : Pos} {Q : V → Store → Prop}
    (h : Ev C A env value ρ σ (fun o σ1 => Prt C A env lo ρ σ1 (fun a σ2 => Prt C A env hi ρ σ2 (fun b σ3 => SliceWP C o a b σ3 Q) X) X) X) : Ev C A env (.Subscript value (.Slice lo hi Option.none p) pos) ρ σ Q X := by
  intro s S F
  rw [eval_Subscript]
  refine wpAny_bind (wpAny_mono (h s S F) ?_ fun _ _ z => z)
  rintro o s1 ⟨x, σ1, h1, r1, S1, e1⟩
  refine wpAny_bind (wpAny_holding ?_)
  rw [arm_eval_Slice]
  refine wpAny_bind (wpAny_mono (h1.run S1 (F.evo e1)) ?_ fun _ _ z => z)
  rintro vl s2 ⟨a, σ2, h2, p2, S2, e2⟩
  refine wpAny_bind (wpAny_holding (wpAny_mono (h2.run S2 ((F.evo e1).evo e2)) ?_ fun _ _ z => z))
  rintro vu s3 ⟨b, σ3, (⟨l, xs, rfl, hl, hz, q⟩ | ⟨x, rfl, hz, q⟩), p3, S3, e3⟩
  · cases r1
    refine wpAny_bind (wpAny_holding (wpAny_pure (wpAny_newObj_type ?_)))
    have S4 : St C σ3 { s3 with heap := s3.heap.push { cls := .type "slice", data := .fields #[vl, vu, .none] } } := S3.push
    obtain ⟨items, il, rl⟩ := hl.raw S4
    have e := rl.length
    simp only [Array.length_toList] at e
    refine wpAny_bind (wpAny_standAt (getitem_mine (.list il) (wpAny_getItem_list_slice (lo := a) (hi := b) (st := none) il ⟨_, Heap.get?_push_size _ rfl, rfl, rfl⟩ p2 p3 .none (by simp) ?_ (by rw [e]; exact hz))))
    obtain ⟨S5, e5⟩ := S4.new (t := s3.toks) (rep_list_push (C := C) (vs := (slicePick items a b none).toList) (xs := pySlice xs a b) (by rw [slicePick_list]; unfold pySlice; simp only [Array.length_toList, e]; exact rl.pick _))
    refine ⟨.ref _, _, q _ S4.fresh, .ref _, by simpa using S5, ?_⟩
    have := (((e1.trans e2).trans e3).trans .push).trans e5
    simpa using this
  · cases r1
    refine wpAny_bind (wpAny_holding (wpAny_pure (wpAny_newObj_type ?_)))
    obtain ⟨l, rfl, rfl⟩ := IsPart.opt p2
    obtain ⟨u, rfl, rfl⟩ := IsPart.opt p3
    refine wpAny_bind (wpAny_standAt (getitem_mine .str (wpAny_getItem_str_slice (l := l) (u := u) (st := none) ⟨_, Heap.get?_push_size _ rfl, rfl, rfl⟩ rfl (post_val_or_str ⟨Nat.le_trans (Txt.slice_le x _ _) hz, fun t' k => ?_⟩))))
    exact ⟨_, σ3, q, .str _ _, (S3.push).toks _, ((e1.trans e2).trans e3).trans .push⟩

end

theorem slice_cps (x : Str) (l u : Option Int) (a n : Nat) (h : a + n ≤ x.length) (e : Builtin.Str.strSliceIndices l u 1 x.length = (List.range n).map fun i => a + i) : (Txt.slice x l u).cps.toList = (x.cps.toList.drop a).take n := by
  have hx : x.cps.toList.length = x.length := by simp [Str.length]
  unfold Txt.slice
  rw [e]
  split
  · rename_i z
    simp only [List.length_map, List.length_range, beq_self_eq_true, Bool.true_and, beq_iff_eq] at z
    have : a = 0 := by (first | lia | omega)
    subst this
    rw [List.drop_zero, List.take_of_length_le (by (first | lia | omega))]
  · have e2 : (List.filterMap (fun i => x.cps[i]?) ((List.range n).map fun i => a + i)) = ((List.range n).map fun i => a + i).filterMap (x.cps.toList[·]?) := by simp
    show (List.filterMap (fun i => x.cps[i]?) ((List.range n).map fun i => a + i)).toArray.toList = _
    rw [e2, pick_range _ a n (by (first | lia | omega))]
theorem slice_upto (x : Str) (k : Nat) (hk : k ≤ x.length) : (Txt.slice x none (some (k : Int))).cps.toList = x.cps.toList.take k := by
  have e : Builtin.Str.strSliceIndices none (some (k : Int)) 1 x.length = (List.range k).map fun i => 0 + i := by
    unfold Builtin.Str.strSliceIndices
    have h1 : ¬ ((k : Int) < 0) := by (first | lia | omega)
    have h2 : max 0 (min (k : Int) (x.length : Int)) = ((k : Nat) : Int) := by (first | lia | omega)
    simp only [h1, if_false, show (1 : Int) > 0 by decide, if_true, h2]
    have := sliceRange_one 0 k
    simpa using this
  rw [slice_cps x none (some (k : Int)) 0 k (by (first | lia | omega)) e, List.drop_zero]
theorem cps_append (x y : Str) : (x ++ y).cps.toList = x.cps.toList ++ y.cps.toList := by
  show (x.cps ++ y.cps).toList = _
  simp
end Mine

set_option autoImplicit false
set_option linter.unusedVariables false
namespace Mine
open PySem PySem.W PySem.SeqAt PyProof.Rows

theorem top_exists (h : Heap) : ∀ n, (∀ b o, h.get? b = some o → b < n) → ∃ m, (∀ b o, h.get? b = some o → b < m) ∧ ∀ k, m = k + 1 → ∃ o, h.get? k = some o
  | 0, hn => ⟨0, hn, fun k e => by cases e⟩
  | n + 1, hn => by
    cases q : h.get? n with
    | some o => exact ⟨n + 1, hn, fun k e => by cases e; exact ⟨o, q⟩⟩
    | none =>
      refine top_exists h n fun b o e => ?_
      have := hn b o e
      rcases Nat.lt_or_eq_of_le (Nat.le_of_lt_succ this) with z | z
      · exact z
      · rw [z, q] at e; cases e

theorem ints_VRs {h : Heap} : ∀ {vs : List Value} {ns : List Int}, IntsAre vs ns → VRs h vs (ns.map V.int)
  | [], ns, hI => by
    cases ns with
    | nil => exact .nil
    | cons _ _ => have := hI.length; simp at this
  | v :: vs, ns, hI => by
    cases ns with
    | nil => have := hI.length; simp at this
    | cons n ns =>
      cases hI with
      | cons _ h2 => exact .cons (.int _ _) (ints_VRs (by assumption))

end Mine

set_option autoImplicit false
set_option linter.unusedVariables false
set_option maxRecDepth 100000
namespace Mine
open PySem PySem.W PySem.SeqAt PyProof.Rows

/-- frames that stand -/
def Frs (C : Cx) (σ : Store) (h : Heap) (l : List Env) : Prop := ∀ env ∈ l, env.scope.kind ≠ .module ∧ ∃ L m, env.frame = some L ∧ h.Ns L m ∧ σ L = none ∧ C.n₀ ≤ L
/-- addresses laid aside: frames -/
def Hid (C : Cx) (σ : Store) (h : Heap) (fs : List Addr) : Prop := ∀ b ∈ fs, σ b = none ∧ C.n₀ ≤ b ∧ ∃ m, h.Ns b m
section
variable {C : Cx} {A : Around} {env : Env} {ρ : Rho} {σ : Store} {X : XP} {s : Shared} {l : List Env}

theorem Evo.off {σ' : Store} {h h' : Heap} (e : Evo σ h σ' h') {b : Addr} {o : Obj} (hb : h.get? b = some o) (hn : σ b = none) : σ' b = none := by
  cases q : σ' b with
  | none => rfl
  | some o2 =>
    rcases e.dom b o2 q with ⟨o', e'⟩ | e'
    · rw [hn] at e'; cases e'
    · rw [hb] at e'; cases e'
theorem Frs.evo {σ' : Store} {h h' : Heap} (x : Frs C σ h l) (e : Evo σ h σ' h') : Frs C σ' h' l := by
  intro env he
  obtain ⟨hk, L, m, hf, hm, hn, hl⟩ := x env he
  have hm' := ns_kept hm fun o q => e.keep _ _ q hn
  obtain ⟨o, es, ep, ho, rest⟩ := hm
  exact ⟨hk, L, m, hf, hm', e.off ho hn, hl⟩
theorem Fm.frs {h : Heap} (F : Fm C σ h env ρ) (hf : env.frame = some env.locals) (x : Frs C σ h l) : Frs C σ h (env :: l) := by
  intro e he
  rcases List.mem_cons.mp he with rfl | he
  · obtain ⟨m, hm, _⟩ := F.loc
    exact ⟨by rw [F.fn]; decide, _, m, hf, hm, F.locs, F.abv⟩
  · exact x e he
theorem Frs.nil {h : Heap} : Frs C σ h [] := fun _ he => (nomatch he)
theorem Frs.hid {h : Heap} (x : Frs C σ h l) : Hid C σ h (l.filterMap (·.frame)) := by
  intro b hb
  obtain ⟨env, he, hf⟩ := List.mem_filterMap.mp hb
  obtain ⟨hk, L, m, hf', hm, hn, hl⟩ := x env he
  rw [hf'] at hf; cases hf
  exact ⟨hn, hl, m, hm⟩
theorem Frs.fun {h : Heap} {fs : List Addr} : ∀ {l : List Env}, Frs C σ h l → (∀ b ∈ l.filterMap (·.frame), b ∈ fs) → h.FunFrames (hideAll h fs) l
  | [], _, _ => trivial
  | env :: r, x, k => by
    obtain ⟨hk, L, m, hf, hm, hn, hl⟩ := x env (.head _)
    obtain ⟨o, es, ep, ho, hd, rest⟩ := hm
    refine ⟨hk, ⟨L, o, hf, hideAll_none _ (k L (List.mem_filterMap.mpr ⟨env, .head _, hf⟩)), ho, fun vs q => by rw [hd] at q; cases q⟩, Frs.fun (fun e he => x e (.tail _ he)) fun b hb => k b ?_⟩
    obtain ⟨e, he, hb⟩ := List.mem_filterMap.mp hb
    exact List.mem_filterMap.mpr ⟨e, .tail _ he, hb⟩

theorem settle {h1 h' B : Heap} {fs : List Addr} (S : St C σ { s with heap := h1 }) (H : Hid C σ h1 fs) (cov : ∀ b o, h1.get? b = some o → b ∉ fs → B.get? b = some o) (st : B.StaysIn h') (up : h1.UpToSlots h') (t : Nat) :
    St C σ { s with heap := h', toks := t } ∧ Evo σ h1 σ h' := by
  have key : ∀ b o, h1.get? b = some o → b ∉ fs → h'.get? b = some o := fun b o e n => st b o (cov b o e n)
  have tk : TupKeep h1 h' := fun a o i e => key a o e fun hb => by
    obtain ⟨_, _, m, o', es, ep, ho, hd, _⟩ := H a hb
    rw [e] at ho; cases ho
    exact Imm.notDict hd i
  refine ⟨⟨fun b o e => ?_, fun a o e => ?_, S.above, S.gens, S.os⟩, fun b o e n => ?_, fun b o e => .inl ⟨o, e⟩, fun b o e => ⟨o, e⟩, tk⟩
  · exact key b o (S.base b o e) fun hb => absurd (C.low b o e) (Nat.not_lt.mpr (H b hb).2.1)
  · exact (S.rep a o e).at (fun x hx => key a x hx fun hb => by rw [(H a hb).1] at e; cases e) tk
  · by_cases hb : b ∈ fs
    · obtain ⟨_, _, m, o', es, ep, ho, hd, _⟩ := H b hb
      rw [e] at ho; cases ho
      exact .inr ⟨⟨es, ep, hd⟩, up b o e fun vs q => by rw [hd] at q; cases q⟩
    · exact .inl (key b o e hb)

/-- an own exception on its way -/
def XR (C : Cx) (σ : Store) (h : Heap) (l : List Env) (D : Addr) (v : Value) (s' : Shared) : Prop :=
  ∃ σ1 h1 e B t fs, v = .ref e ∧ St C σ1 { s' with heap := h1 } ∧ Evo σ h σ1 h1 ∧ Hid C σ1 h1 fs ∧ (∀ b o, h1.get? b = some o → b ∉ fs → B.get? b = some o) ∧ h1.get? e = none ∧ h1.UpToSlots s'.heap ∧ Heap.FlyingW B l e (.ref D) (.ref t) s'.heap
/-- one that was made here -/
def XM (C : Cx) (env : Env) (σ : Store) (h : Heap) (D : Addr) (v : Value) (s' : Shared) : Prop :=
  ∃ σ1 h1 e vs, v = .ref e ∧ St C σ1 { s' with heap := h1 } ∧ Evo σ h σ1 h1 ∧ Heap.MadeExcOf h1 s'.heap e (.ref D) vs

/-- a call that may raise D -/
def CallR (C : Cx) (A : Around) (l : List Env) (f : Value) (args : List V) (σ : Store) (Q : V → Store → Prop) (D : Addr) : Prop :=
  ∀ s vs, St C σ s → VRs s.heap vs args → Frs C σ s.heap l → wpAny C.M A (call f vs) (EP C σ s.heap Q) (XR C σ s.heap l D) s
/-- a call that looks at the frames -/
def CallF (C : Cx) (A : Around) (l : List Env) (f : Value) (args : List V) (σ : Store) (Q : V → Store → Prop) (X : XP) : Prop :=
  ∀ s vs, St C σ s → VRs s.heap vs args → Frs C σ s.heap l → wpAny C.M A (call f vs) (EP C σ s.heap Q) X s

/-- f(args), where the call looks at this frame -/
theorem Ev.callF {func : Expr} {args : List Expr} {pos : Pos} {Q : V → Store → Prop} (hf : env.frame = some env.locals)
    (h : Ev C A env func ρ σ (fun fx σ1 => ∃ f, (∀ v hp, VR hp v fx → v = f) ∧ Kp C f ∧ Ags C A env pos args ρ σ1 (fun xs σ2 => CallF C A [env] f xs σ2 Q X) X) X)
    (hev : eval (.Call func args [] pos) env = (do callWith pos (← eval func env) [] (backTo pos (starEach args env)) (backToKw pos (keywordEach [] env))))
    (he : (backTo pos (starEach args env)).any (·.1) = false) : Ev C A env (.Call func args [] pos) ρ σ Q X := by
  intro s S F
  rw [hev]
  refine wpAny_bind (wpAny_mono (h s S F) ?_ fun _ _ z => z)
  rintro v s1 ⟨x, σ1, ⟨f, hf', kp, q⟩, r1, S1, e1⟩
  obtain rfl := hf' v _ r1
  refine callWith_of (first := []) (P := fun h => ∀ b o, C.h₀.get? b = some o → h.get? b = some o) (by rw [he]; rfl) kp ?_
  refine evalArgs_sp he (wpAny_mono (q s1 S1 (F.evo e1)) ?_ fun _ _ z => z)
  rintro vs s2 ⟨xs, σ2, q2, r2, S2, e2⟩
  exact ⟨S2.base, wpAny_mono (q2 s2 _ S2 r2 ((((F.evo e1).evo e2)).frs hf .nil)) (fun _ _ z => (z.after e2).after e1) fun _ _ z => z⟩

theorem St.adoptX {a : Addr} {o : O} {σ0 : Store} {h0 : Heap} (S : St C σ s) (r : Rep C s.heap a o) (hn : C.h₀.get? a = none) (hl : C.loose) (e : Evo σ0 h0 σ s.heap) (hf : h0.get? a = none) : St C (σ.upd a o) s ∧ Evo σ0 h0 (σ.upd a o) s.heap := by
  refine ⟨⟨S.base, fun b x hx => ?_, fun b x hx => ?_, S.gens, S.os⟩, e.keep, fun b x hx => ?_, fun b x hx => ?_, e.tup⟩
  · by_cases q : b = a
    · subst q; rw [Store.upd_self] at hx; cases hx; exact r
    · rw [Store.upd_ne _ _ q] at hx; exact S.rep b x hx
  · by_cases q : b = a
    · subst q; exact ⟨hn, .inr (.inr hl)⟩
    · rw [Store.upd_ne _ _ q] at hx; exact S.above b x hx
  · by_cases q : b = a
    · subst q; exact .inr hf
    · rw [Store.upd_ne _ _ q] at hx; exact e.dom b x hx
  · obtain ⟨o', e'⟩ := e.mono b x hx
    by_cases q : b = a
    · subst q; exact ⟨_, Store.upd_self ..⟩
    · exact ⟨o', by rw [Store.upd_ne _ _ q]; exact e'⟩

end
end Mine

set_option autoImplicit false
set_option linter.unusedVariables false
set_option maxRecDepth 100000
namespace Mine
open PySem PySem.W PySem.SeqAt PyProof.Rows PySem.Calls PySem.Builtin PySem.Builtin.ObjectAttr PySem.Builtin.Getset_descriptor
/-- an exception of an own class -/
def ExAt (x D : Addr) (h : Heap) : Prop := ∃ o vs, h.get? x = some o ∧ o.cls = .ref D ∧ o.data = .fields vs
theorem ExAt.type {x D : Addr} {M : Model} {h : Heap} (I : ExAt x D h) : Looks M h (typeOf (.ref x)) (.ref D) := by
  obtain ⟨o, vs, e, hc, _⟩ := I
  exact hc ▸ (Looks.ld e).andThen .now
/-- what isinstance asks of the class -/
def excKit (K : Frag) (D : Addr) : Bool :=
  (findIn K (.ref D) "__getattribute__" == some (some (.builtin "BaseException.__getattribute__"))) && (findIn K (.ref D) "__getattr__" == some none) && (findIn K (.ref D) "__class__" == some (some (.builtin "object.__class__"))) &&
  (specialIn K (.builtin "object.__class__") "__get__" == some (some (.builtin "getset_descriptor.__get__"))) && (takesIn K (.builtin "object.__class__") == some true) && (mroIn K D (.type "object") == some true) && (mroIn K D (.type "BaseException") == some true) && (clsIn K D).isSome
section
variable {prog : Program} {w : World} {A : Around} {E : Value → Shared → Prop} {s : Shared} {K : Frag} {x D : Addr}
theorem exc_find {M : Model} {h : Heap} {g a : Value} (X : K.In h) (I : ExAt x D h) (ha : findIn K (.ref D) "__class__" = some (some a)) (hn : specialIn K a "__get__" = some (some g)) (htk : takesIn K a = some true) :
    Looks M h (find (.ref x) (.ref D) "__class__") (.bind g a) := by
  have L1 := looks_findIn (M := M) X ha
  have L2 : Looks M h (getOf (some a)) (some g) := looks_specialIn X hn
  have L3 := looks_takesIn (M := M) X htk
  exact L1.andThen (L2.andThen ((show Looks M h (dataDescriptor? (some a) (some g)) (some (g, a)) from L3.andThen .now).andThen (Looks.tag .now)))
theorem exc_get {R : Result → Shared → Prop} {tp : Value} (X : K.In s.heap) (I : ExAt x D s.heap) (hm : mroIn K D (.type "object") = some true) (h : R (.ok (.ret (.ref D))) s) :
    codeAny (model prog w) A (.call (.builtin "getset_descriptor.__get__") ⟨[.builtin "object.__class__", .ref x, tp], []⟩) R s := by
  obtain ⟨hh, g, dr, t, os⟩ := s
  have L0 := I.type (M := model prog w)
  have L1 := looks_mroIn (M := model prog w) X hm
  refine codeAny_call_builtin KF.slot_gs.plain KF.entry_gs (KF.slot_gs.check _ _ _ _ _ _ _ _ KF.type_class (KF.args_gs _ _ _) ?_)
  unfold Builtin.«getset_descriptor.__get__» descrGet
  rw [dga_obj]
  refine wpAny_bind (wpAny_pure ?_)
  unfold descrGetter descrCheckInstance descrNameAndClass isInstance
  simp only [KF.owner_class]
  repeat lk
  refine ⟨Code.quiet_builtin _ (by decide +kernel), codeAny_builtin KF.entry_class ?_⟩
  unfold Builtin.«object.__class__» shownTypeOf
  repeat lk
  exact h
theorem exc_check {nameV : Value} {Q : Unit → Shared → Prop} (X : K.In s.heap) (I : ExAt x D s.heap) (hm : mroIn K D (.type "BaseException") = some true) (hq : Q () s) : wpAny (model prog w) A (checkBuiltinCall "BaseException.__getattribute__" ⟨[.ref x, nameV], []⟩) Q E s := by
  have hk : builtinKind "BaseException.__getattribute__" = some .slot := by decide +kernel
  have hsplit : splitId "BaseException.__getattribute__" = some ("BaseException", "__getattribute__") := by decide +kernel
  have ha := F.args_bexc_ga (.ref x) nameV
  have L0 := I.type (M := model prog w)
  have LI : Looks (model prog w) s.heap (isInstance (.ref x) (.type "BaseException")) true := L0.andThen (looks_mroIn (M := model prog w) X hm)
  obtain ⟨hh, g, d, t, os⟩ := s
  simp only [checkBuiltinCall, hk, hsplit]
  refine wpAny_bind (LI.at ?_)
  repeat wp_step
  exact hq
theorem exc_class {Q : Option Value → Shared → Prop} (hK : excKit K D = true) (X : K.In s.heap) (I : ExAt x D s.heap) (h : Q (some (.ref D)) { s with toks := s.toks + 1 }) : wpAny (model prog w) A (getAttr? (.ref x) "__class__") Q E s := by
  unfold excKit at hK
  simp only [Bool.and_eq_true, beq_iff_eq] at hK
  obtain ⟨⟨⟨⟨⟨⟨⟨h1, h2⟩, h3⟩, h4⟩, h5⟩, h6⟩, h7⟩, _⟩ := hK
  have L0 := I.type (M := model prog w)
  have L1 := looks_findIn (M := model prog w) X h1
  have L2 := exc_find (M := model prog w) X I h3 h4 h5
  have L3 := looks_findIn (M := model prog w) X h2
  have f3 := F.attrBase_ValueError.ga.bind (.ref x)
  have hx2 : (Value.builtin "BaseException.__getattribute__" == Value.builtin "object.__getattribute__") = false := by decide +kernel
  obtain ⟨hh, g, d, t, os⟩ := s
  unfold getAttr? getAttrBy? getAttrBy
  refine wpAny_bind (wpAny_mkText (wpAny_bind (wpAny_attempt (wpAny_holding (wpAny_bind (L0.at (wpAny_bind (L1.at ?_))))))))
  dsimp only
  rw [hx2, Bool.and_false, if_neg Bool.false_ne_true]
  unfold getAttrByItsOwn
  refine wpAny_bind (show wpAny _ _ (typeLookup (.ref D) "__getattr__") _ _ _ from L3.at ?_)
  refine wpAny_bind (wpAny_attempt (wpAny_holding ?_))
  show wpAny _ _ (boundAndCalled _ _ _) _ _ _
  unfold boundAndCalled
  rw [f3]
  refine wpAny_bind (wpAny_pure ?_)
  refine wpAny_call (codeAny_call_builtin F.attrBase_ValueError.ga.plain F.entry_bexc_ga (exc_check (s := ⟨hh, g, d, t + 1, os⟩) X I h7 ?_))
  refine wpAny_bind (wpAny_pure (wpAny_bind (wpAny_pure (wpAny_bind (L0.at (wpAny_bind (L2.at ?_)))))))
  show wpAny _ _ (holding [.builtin "object.__class__"] (call (.builtin "getset_descriptor.__get__") [.builtin "object.__class__", .ref x, .ref D]) >>= ret) _ _ _
  refine wpAny_bind (wpAny_holding (wpAny_call (exc_get (s := ⟨hh, g, d, t + 1, os⟩) X I h6 ?_)))
  refine wpAny_pure ?_
  exact handed_on rfl (wpAny_pure h)
theorem kitx_exc (hK : excKit K D = true) : KitX K (.ref x) (.ref D) (ExAt x D) where
  ty := fun _ _ _ I => I.type
  it := fun _ _ X _ => by
    have hK' := hK
    unfold excKit at hK'
    simp only [Bool.and_eq_true] at hK'
    have hc := hK'.2
    unfold clsIn at hc
    split at hc
    · rename_i c' d' cd' sl' ho
      intro A' Q' E' s' k q
      unfold isType loadHead
      exact wpAny_bind (wpAny_loadPart (k _ _ (X _ _ ho)) (wpAny_pure q))
    · cases hc
  ne := fun h tp dd its n sl X htp => by
    have hK' := hK
    unfold excKit at hK'
    simp only [Bool.and_eq_true] at hK'
    have hc := hK'.2
    refine Bool.eq_false_iff.mpr fun q => ?_
    have e : D = tp := Value.ref.inj (beq_iff_eq.mp q)
    subst e
    unfold clsIn at hc
    split at hc
    · rename_i c' d' cd' sl' ho
      have z := (X _ _ ho).symm.trans htp
      cases z
    · cases hc
  ca := fun X I k => exc_class hK X I k
end
section
variable {C : Cx} {A : Around} {env : Env} {ρ : Rho} {σ : Store} {X : XP} {s : Shared}
theorem isi_exc {e D T : Addr} {b : Bool} {Q : V → Store → Prop} (he : σ e = some (.exc D)) (hK : excKit C.K D = true) (hk : kitOne C.K (.ref D) (.ref T) = some b) (h : Q (.bool b) σ) : CallWP C A (.builtin "isinstance") [.ref e, .ref T] σ Q X := by
  intro s vs S r
  obtain ⟨_, _, rfl, r1, r2⟩ := r.two
  obtain rfl := r1.refI
  obtain rfl := r2.refI
  exact kia_one (kitx_exc (x := e) hK) S.K (S.rep _ _ he) hk (by intro q; cases q) fun tk => EP.pureT S h (.bool _)
theorem isi_excT {e D : Addr} {T : String} {b : Bool} {Q : V → Store → Prop} (he : σ e = some (.exc D)) (hK : excKit C.K D = true) (hk : kitOne C.K (.ref D) (.type T) = some b) (h : Q (.bool b) σ) : CallWP C A (.builtin "isinstance") [.ref e, .typ T] σ Q X := by
  intro s vs S r
  obtain ⟨_, _, rfl, r1, r2⟩ := r.two
  obtain rfl := r1.refI
  obtain rfl := r2.typI
  exact kia_one (kitx_exc (x := e) hK) S.K (S.rep _ _ he) hk (by intro q; cases q) fun tk => EP.pureT S h (.bool _)
end
end Mine

set_option autoImplicit false
set_option linter.unusedVariables false
set_option maxRecDepth 100000
namespace Mine
open PySem PySem.W PySem.SeqAt PyProof.Rows PySem.Calls PySem.Builtin PySem.Builtin.Str
/-- a text's signs -/
def signsV (x : Str) : List V := x.cps.toList.map fun c => V.str ⟨#[c]⟩
section
variable {C : Cx} {A : Around} {env : Env} {ρ : Rho} {σ : Store} {X : XP} {s : Shared}
theorem signs_get {x : Str} {k : Nat} {y : V} (h : (signsV x)[k]? = some y) : ∃ c, x.cps[k]? = some c ∧ y = .str ⟨#[c]⟩ := by
  unfold signsV at h
  rw [List.getElem?_map] at h
  obtain ⟨c, h1, h2⟩ := Option.map_eq_some_iff.mp h
  exact ⟨c, by simpa using h1, h2.symm⟩
theorem signs_none {x : Str} {k : Nat} (h : (signsV x)[k]? = none) : x.cps[k]? = none := by
  unfold signsV at h
  rw [List.getElem?_map] at h
  simpa using h
theorem striter_imm {h : Heap} {it : Addr} {T : String} {x : Str} {t : Tok} {k : Nat} (hT : T = "str_ascii_iterator" ∨ T = "str_iterator") (J : h.IsStrIter it T x t k) {o : Obj} (e : h.get? it = some o) : ¬ Imm o := by
  obtain ⟨o', e', c, d⟩ := J
  rw [e] at e'; cases e'
  rcases hT with rfl | rfl <;> exact Imm.not (by rw [c]; simp) (by rw [c]; simp) (by rw [c]; simp)
theorem Itr.strG {target : Expr} {it : Addr} {x : Str} {t : Tok} {T : String} (hT : T = "str_ascii_iterator" ∨ T = "str_iterator") (hh : A.handled = none) :
    Itr C A target (.ref it) (fun b => b = it) (fun k h => h.IsStrIter it T x t k) (fun _ => True) (signsV x) where
  frame := fun k h h' ⟨o, e, r⟩ _ kp => ⟨o, kp it o rfl e, r⟩
  notTup := fun k h b o' J q z => by subst q; exact striter_imm hT J z
  notD := fun k h b o' ⟨o, e, c, d⟩ q z es n w => by subst q; rw [e] at z; cases z; rw [d] at w; cases w
  there := fun k h b ⟨o, e, _⟩ q => by subst q; exact ⟨o, e⟩
  more := fun k σ s y Q X S hok hJ hx no hQ => by
    obtain ⟨c, hc, rfl⟩ := signs_get hx
    have go : ∀ h', h'.IsStrIter it T x t (k + 1) → Heap.SameBut it s.heap h' → Q (some (.str ⟨#[c]⟩ s.toks)) { s with heap := h', toks := s.toks + 1 } := fun h' J' sb => by
      have kp : ∀ b o, ¬ b = it → s.heap.get? b = some o → h'.get? b = some o := fun b o q e => (sb.2 b q).trans e
      refine hQ _ h' (s.toks + 1) (.str _ _) kp (fun b o' q z => ?_) (fun Q' X' hq => ?_)
      · subst q; exact striter_imm hT J' z
      · obtain ⟨o, e, hc, _⟩ := id J'
        rcases hT with rfl | rfl <;> exact letGo_plain (s := { s with heap := h', toks := s.toks + 1 }) e hc (by decide) (hq h' (s.toks + 1) J' fun _ _ _ e => e)
    rcases hT with rfl | rfl
    · exact wpAny_pyNext_ascii_item hJ hc go
    · exact wpAny_pyNext_wide_item hJ hc go
  self := fun k s Q X hJ hq => by
    rcases hT with rfl | rfl
    · exact wpAny_pyIter_striter_ascii hJ hq
    · exact wpAny_pyIter_striter_wide hJ hq
  done := fun k σ s Q X S hok hJ hx no hQ => by
    rcases hT with rfl | rfl
    · exact wpAny_pyNext_ascii_end hh hJ (signs_none hx) fun h' kp => hQ h' s.toks fun b o q e => kp b o q e
    · exact wpAny_pyNext_wide_end hh hJ (signs_none hx) fun h' kp => hQ h' s.toks fun b o q e => kp b o q e
theorem ItV.str {target : Expr} {x : Str} (hh : A.handled = none) : ItV C A target (.str x) σ (signsV x) (fun _ => True) := by
  refine ⟨trivial, fun s v Q X S r hQ => ?_⟩
  cases r with
  | str _ t =>
    cases ha : x.cps.all (· < 128)
    · exact wpAny_pyIter_wide ha (hQ _ _ _ _ s.toks (Itr.strG (t := t) (.inr rfl) hh) (fun b o e => Heap.get?_push_of_some _ e) (fun b w => w ▸ Nat.le_refl _) ⟨_, Heap.get?_push_size _ rfl, rfl, rfl⟩)
    · exact wpAny_pyIter_ascii ha (hQ _ _ _ _ s.toks (Itr.strG (t := t) (.inl rfl) hh) (fun b o e => Heap.get?_push_of_some _ e) (fun b w => w ▸ Nat.le_refl _) ⟨_, Heap.get?_push_size _ rfl, rfl, rfl⟩)

def inS (x y : Str) : Bool := !(Builtin.Str.occurrences x y 0 x.length 1).isEmpty
theorem CmpWP.inStr {x y : Str} {Q : V → Store → Prop} (h : Q (.bool (inS x y)) σ) : CmpWP C A .In (.str y) (.str x) σ Q X := by
  intro s a b S ra rb
  obtain ⟨_, rfl⟩ := ra.strI
  obtain ⟨_, rfl⟩ := rb.strI
  exact PyProof.Rows.in_str (EP.pure S h (.bool _))
theorem UnWP.not {x : V} {Q : V → Store → Prop} (h : TruWP C A x σ (fun b σ' => Q (.bool (!b)) σ') X) : UnWP C A .Not x σ Q X := by
  intro s v S r
  refine PyProof.Rows.not_of (wpAny_mono (h s v S r) ?_ fun _ _ z => z)
  rintro b s' ⟨σ', q, S', e'⟩
  exact ⟨_, σ', q, .bool _, S', e'⟩
def isT : Value → Bool
  | .bool b => b
  | _ => false
theorem bools_of {h : Heap} : ∀ {vs : List Value} {bs : List Bool}, VRs h vs (bs.map V.bool) → vs = bs.map Value.bool
  | vs, [], r => r.nilI
  | vs, b :: bs, r => by
    obtain ⟨_, _, rfl, r1, r2⟩ := r.consI
    obtain rfl := r1.boolI
    rw [bools_of r2]; rfl
theorem eqT {b : Bool} (S : St C σ s) (hu : A.units < 9000) : EqAt A.in1 s (.bool b) (.bool true) b := by
  intro prog w E Q hq
  obtain ⟨as, r1⟩ := (DR.bool (C := C) (σ := σ) b).reads S (.bool b)
  obtain ⟨bs, r2⟩ := (DR.bool (C := C) (σ := σ) true).reads S (.bool true)
  refine eqBoolOverData prog w _ E s _ _ _ _ _ _ Q r1 r2 rfl rfl ?_ ?_
  · show A.units + 1 + _ < _
    simp only [PyData.depth, cLine]; (first | lia | omega)
  · have e : PyData.eqv (.bool b) (.bool true) = b := by cases b <;> rfl
    rw [e]; exact hq
theorem CallWP.countB {l : Addr} {bs : List Bool} {Q : V → Store → Prop} (hl : LstAt C σ l (bs.map V.bool)) (hu : A.units < 9000) (h : Q (.int ((bs.countP id : Nat) : Int)) σ) : CallWP C A (.builtin "list.count") [.ref l, .bool true] σ Q X := by
  intro s vs S r
  obtain ⟨_, _, rfl, r1, r2⟩ := r.two
  obtain rfl := r1.refI
  obtain rfl := r2.boolI
  obtain ⟨items, hI, rl⟩ := hl.raw S
  have e := bools_of rl
  obtain ⟨⟨cls, dd, data, sl⟩, ho, hc, n, hd⟩ := id hI
  simp only at hc hd
  subst hc hd
  refine call_meets PySem.F.slot_list_count ⟨_, ho, rfl⟩ PySem.F.entry_list_count (PySem.F.args_list_count_2 _ _) (list_countAt l items n dd sl (.bool true) isT) ⟨ho, fun y hy => ?_, ?_⟩
  · have hy' : y ∈ items.toList := by simpa using hy
    rw [e] at hy'
    obtain ⟨b, _, rfl⟩ := List.mem_map.mp hy'
    exact eqT S hu
  · rw [e]
    have e2 : (bs.map Value.bool).countP isT = bs.countP id := by rw [List.countP_map]; rfl
    rw [e2]
    exact EP.pureT S h (.int _ _)
/-- def rules that tell the frames -/
theorem CallWP.def1F (x1 : Str) {f : Addr} {name qual : Str} {params : Arguments} {body : List Stmt} {scope : Scope} {dV kV doc pm cdv ct oc : Value} {an od : Option Addr} {osl : Array (Option Value)} {v1 : V} {Q : V → Store → Prop}
    (ho : C.K.lookup f = some ⟨oc, od, .func (fnOf name qual params body scope dV kV doc pm an cdv ct), osl⟩) (hcd : codeIn C.K cdv qual = true) (hroom : A.depth < recursionLimit)
    (hbind : ∀ u1 : Value, bindArgs (fnOf name qual params body scope dV kV doc pm an cdv ct) ⟨[u1], []⟩ = pure [(x1, u1)]) (nd : ([x1] : List Str).Nodup)
    (hkind : (([x1] : List Str).all fun y => scope.names.lookup y == some .local || scope.names.lookup y == some .cell) = true) (hsc : scopeOk scope = true) (hco : scope.isCoroutine = false) (hgen : scope.isGenerator = false) (hk : scope.kind = .function)
    (h : ∀ L A', A'.handled = A.handled → A'.depth = A.depth + 1 → A'.units = A.units + 3 → A'.frames = A.frames.map (mkE scope L (cellsFrom (L + 1) scope.names []) (qual ++ ".<locals>.") (some f) cdv (some L) :: ·) → Exs C A' (mkE scope L (cellsFrom (L + 1) scope.names []) (qual ++ ".<locals>.") (some f) cdv (some L)) body [(x1, v1)] σ (fun g _ σ' => Q g.val σ') (fun _ _ => False)) :
    CallWP C A (.ref f) [v1] σ Q X :=
  CallWP.fnK (names := [x1]) (args := [v1]) ho hcd hroom (fun L => h L _ rfl rfl rfl rfl) (fun vals hl => by obtain ⟨u1, t1, rfl, h1⟩ := lenS hl; obtain rfl := List.eq_nil_of_length_eq_zero h1; exact hbind u1) nd hkind hsc hco hgen hk
/-- the law's call, where the text may raise -/
theorem glueX {prog : Program} {w : World} {s₁ : Shared} {K : Frag} {p : Program} {loose : List Str} {mean : ExcName → Option Value} {mg mb : Str → Option Value} {l fa : Addr} {vs : List Value} {ns : List Int} (KX : K.In s₁.heap) (T : Top p loose mean mg mb s₁.heap)
    (gens : s₁.gens = #[]) (hl : s₁.heap.IsList l vs.toArray) (hI : IntsAre vs ns)
    (h : ∀ C : Cx, C.prog = prog → C.w = w → C.K = K → C.loose → Top p loose mean C.mg C.mb C.h₀ → BaseL C l (ns.map V.int) → CallWP C callerA (.ref fa) [.ref l] (fun _ => none) (fun v _ => v = .bool true) (fun _ _ => False)) :
    wpAny (model prog w) callerA (call (.ref fa) [.ref l]) (fun v s' => v = .bool true ∧ (∀ b o, s₁.heap.get? b = some o → s'.heap.get? b = some o) ∧ s'.os = s₁.os ∧ s'.gens = #[]) (fun _ _ => False) s₁ := by
  obtain ⟨n, hn1, hn2⟩ := top_exists s₁.heap s₁.heap.objs.size fun b o e => Heap.lt_size e
  have := h ⟨prog, w, s₁.heap, s₁.gens, s₁.os, n, hn1, hn2, K, KX, mg, mb, T.g, T.b, T.builtins, T.nolimit, [], True⟩ rfl rfl rfl trivial T ⟨vs.toArray, hl, by simpa using ints_VRs hI⟩ s₁ [.ref l]
    ⟨fun _ _ e => e, fun _ _ e => (nomatch e), fun _ _ e => (nomatch e), rfl, rfl⟩ (.cons (.ref _) .nil)
  refine wpAny_mono this ?_ fun _ _ z => z
  rintro v s' ⟨x, σ', rfl, r, S, e⟩
  cases r
  exact ⟨rfl, S.base, S.os, S.gens.trans gens⟩
end
end Mine

set_option autoImplicit false
set_option linter.unusedVariables false
namespace Mine
open PySem PySem.W

/- a ledger: which objects stand in the store, each at its own address -/
structure Led (σ : Store) (l : List (Addr × O)) : Prop where
  nd : (l.map (·.1)).Nodup
  at_ : ∀ p ∈ l, σ p.1 = some p.2
/-- the kinds of two objects part their addresses -/
def O.kind : O → Nat
  | .list _ => 0
  | .sd _ => 1
  | .id _ => 2
  | .inst _ _ => 3
  | .tab _ _ => 4
  | .exc _ => 5
end Mine

set_option autoImplicit false
set_option linter.unusedVariables false
namespace Mine
open PySem PySem.W PySem.SeqAt PyProof.Rows

section
variable {C : Cx} {A : Around} {env : Env} {ρ : Rho} {σ : Store} {X : XP} {s : Shared}

/-- what a while's body owes -/
def WhQ (I : Nat → Rho → Store → Prop) (n : Nat) (Q : FV → Rho → Store → Prop) (g : FV) (ρ : Rho) (σ : Store) : Prop :=
  match g with
  | .next | .cont => ∃ m, m < n ∧ I m ρ σ
  | .brk => Q .next ρ σ
  | .ret v => Q (.ret v) ρ σ
/- the last item of a tuple -/
end
end Mine

set_option autoImplicit false
set_option linter.unusedVariables false
namespace Mine
open PySem PySem.W PySem.SeqAt PyProof.Rows

def enumV (xs : List V) : List V := xs.zipIdx.map fun p => .tup [.int (p.2 : Int), p.1]
theorem enumV_get {xs : List V} {k : Nat} : (enumV xs)[k]? = (xs[k]?).map fun x => V.tup [.int (k : Int), x] := by
  unfold enumV
  rw [List.getElem?_map, List.getElem?_zipIdx]
  cases xs[k]? <;> simp
section
variable {C : Cx} {A : Around} {env : Env} {ρ : Rho} {σ : Store} {X : XP} {s : Shared}

theorem Itr.enum {elts : List Expr} {k0 : Nat} {tp : Pos} {e it l : Addr} {xs : List V} (hh : A.handled = none) (hei : e ≠ it) (hle : l ≠ e) (hli : l ≠ it) :
    Itr C A (.Tuple elts k0 tp) (.ref e) (fun b => b = e ∨ b = it) (fun k h => (∃ old, IsEnum h e it k old) ∧ h.IsListIter it l k) (fun σ => LstAt C σ l xs) (enumV xs) where
  frame := fun k h h' ⟨⟨old, he⟩, hit⟩ _ kp => ⟨⟨old, kp e _ (.inl rfl) he⟩, hit.at fun o x => kp it o (.inr rfl) x⟩
  notTup := fun k h b o' ⟨⟨old, he⟩, ⟨o, eo, c, _⟩⟩ q z => by
    rcases q with rfl | rfl
    · rw [he] at z; cases z; exact Imm.not (by simp) (by simp) (by simp)
    · rw [eo] at z; cases z; exact Imm.not (by rw [c]; simp) (by rw [c]; simp) (by rw [c]; simp)
  notD := fun k h b o' ⟨⟨old, he⟩, ⟨o, eo, c, d⟩⟩ q z es n w => by
    rcases q with rfl | rfl
    · rw [he] at z; cases z; cases w
    · rw [eo] at z; cases z; rw [d] at w; cases w
  there := fun k h b ⟨⟨old, he⟩, ⟨o, eo, _⟩⟩ q => by
    rcases q with rfl | rfl
    · exact ⟨_, he⟩
    · exact ⟨_, eo⟩
  more := fun k σ s x Q X S hok hJ hx no hQ => by
    obtain ⟨items, hl, hr⟩ := hok.raw S
    obtain ⟨⟨old, he⟩, hit⟩ := hJ
    rw [enumV_get] at hx
    obtain ⟨y, hy, rfl⟩ := Option.map_eq_some_iff.mp hx
    obtain ⟨u, hu, ru⟩ := hr.get hy
    refine wpAny_pyNext_enum_item he hit hl (by simpa using hu) hei fun h' ho hit' hT hsz hk => ?_
    have helt : e < s.heap.objs.size := Heap.lt_size he
    have hilt : it < s.heap.objs.size := by obtain ⟨_, x, _⟩ := hit; exact Heap.lt_size x
    have kp : ∀ b o, ¬ (b = e ∨ b = it) → s.heap.get? b = some o → h'.get? b = some o := fun b o q e' => hk b o (fun z => q (.inl z)) (fun z => q (.inr z)) e'
    have tk : TupKeep s.heap h' := tk_ow (ow := fun b => b = e ∨ b = it) kp fun b o' q z => by
      obtain ⟨o, eo, c, _⟩ := hit
      rcases q with rfl | rfl
      · rw [he] at z; cases z; exact Imm.not (by simp) (by simp) (by simp)
      · rw [eo] at z; cases z; exact Imm.not (by rw [c]; simp) (by rw [c]; simp) (by rw [c]; simp)
    refine hQ (.ref s.heap.objs.size) h' (s.toks + 1) (.tup (n := 0) hT (.cons (.int _ _) (.cons (ru.mono tk) .nil))) kp (fun b o' q z => ?_) fun Q' X' hq => ?_
    · obtain ⟨o, eo, c, _⟩ := hit'
      rcases q with rfl | rfl
      · rw [ho] at z; cases z; exact Imm.not (by simp) (by simp) (by simp)
      · rw [eo] at z; cases z; exact Imm.not (by rw [c]; simp) (by rw [c]; simp) (by rw [c]; simp)
    · refine wpAny_letOwnedTupleGo_enum (s := { s with heap := h', toks := s.toks + 1 }) ho fun h'' he'' hs'' => ?_
      refine hq h'' (s.toks + 1) ⟨⟨_, by simpa using he''⟩, hit'.at fun o y => (hs''.2 it hei.symm).trans y⟩ fun b o q y => (hs''.2 b fun z => q (.inl z)).trans y
  self := fun k s Q X ⟨⟨old, he⟩, _⟩ hq => wpAny_pyIter_enum he hq
  done := fun k σ s Q X S hok hJ hx no hQ => by
    obtain ⟨items, hl, hr⟩ := hok.raw S
    obtain ⟨⟨old, he⟩, hit⟩ := hJ
    have hn : items[k]? = none := by
      rw [enumV_get, Option.map_eq_none_iff] at hx
      have h1 := List.getElem?_eq_none_iff.mp hx
      have h2 := hr.length
      simp only [Array.length_toList] at h2
      exact Array.getElem?_eq_none_iff.mpr (by (first | lia | omega))
    exact wpAny_pyNext_enum_end hh he hit hl hn fun h' hx => hQ h' s.toks fun b o q y => hx b o (fun z => q (.inr z)) y

/-- a tuple that stands at the text's top -/
theorem VR.gtup {a : Addr} {items : List Value} {n : Nat} {vs : List V} (h : C.K.lookup a = some (tupObj items.toArray n)) (r : VRs C.h₀ items vs) : VR C.h₀ (.ref a) (.tup vs) :=
  .tup (C.KX a _ h) (by simpa using r)
theorem Src.enum {e func : Expr} {pos : Pos} {elts : List Expr} {k0 : Nat} {tp : Pos} {Q : List V → (Store → Prop) → Store → Prop} (hh : A.handled = none)
    (h : Ev C A env func ρ σ (fun fx σ1 => fx = .typ "enumerate" ∧ Ags C A env pos [e] ρ σ1 (fun xs σ2 => ∃ l ys, xs = [.ref l] ∧ LstAt C σ2 l ys ∧ Q (enumV ys) (fun σ => LstAt C σ l ys) σ2) X) X)
    (hev : eval (.Call func [e] [] pos) env = (do callWith pos (← eval func env) [] (backTo pos (starEach [e] env)) (backToKw pos (keywordEach [] env))) := by kernel_rfl)
    (he : (backTo pos (starEach [e] env)).any (·.1) = false := by kernel_rfl) : Src C A env (.Tuple elts k0 tp) (.Call func [e] [] pos) ρ σ Q X := by
  intro s S F
  rw [hev]
  refine wpAny_bind (wpAny_mono (h s S F) ?_ fun _ _ z => z)
  rintro v s1 ⟨x, σ1, ⟨rfl, q⟩, r1, S1, e1⟩
  cases r1
  refine callWith_of (P := fun h => ∀ b o, C.h₀.get? b = some o → h.get? b = some o) (by rw [he]; rfl) Kp.typ ?_
  refine evalArgs_sp he (wpAny_mono (q s1 S1 (F.evo e1)) ?_ fun _ _ z => z)
  rintro vs s2 ⟨xs, σ2, ⟨l, ys, rfl, hl, hq⟩, r2, S2, e2⟩
  refine ⟨S2.base, ?_⟩
  cases r2 with
  | cons ra rb =>
    cases rb
    cases ra
    obtain ⟨items, il, rl⟩ := hl.raw S2
    have hlt : l < s2.heap.objs.size := by obtain ⟨_, z, _⟩ := il; exact Heap.lt_size z
    refine call_enumerate_list il fun h' hE hI hz kp => ?_
    refine wpAny_pyIter_enum (s := { s2 with heap := h' }) hE ?_
    have e12 := e1.trans e2
    have fr : ∀ b, (b = s2.heap.objs.size + 1 ∨ b = s2.heap.objs.size) → s2.heap.objs.size ≤ b := fun b w => by
      rcases w with w | w
      · rw [w]; exact Nat.le_succ _
      · rw [w]; exact Nat.le_refl _
    exact ⟨enumV ys, _, σ2, _, _, hq, Itr.enum hh (Nat.ne_of_gt (Nat.lt_succ_self _)) (Nat.ne_of_lt (Nat.lt_succ_of_lt hlt)) (Nat.ne_of_lt hlt), hl, S2.ext (t := s2.toks) kp, e12.trans (.ext kp), fun b w => ⟨Evo.fresh (h' := s2.heap) S2 e12 (fr b w), S2.fresh' (fr b w)⟩, ⟨⟨_, hE⟩, hI⟩⟩
theorem Src.enumN {e : Expr} {p pos : Pos} {elts : List Expr} {k0 : Nat} {tp : Pos} {Q : List V → (Store → Prop) → Store → Prop} (hh : A.handled = none)
    (h : Ev C A env (.Name (Str.ofString "enumerate") p) ρ σ (fun fx σ1 => fx = .typ "enumerate" ∧ Ags C A env pos [e] ρ σ1 (fun xs σ2 => ∃ l ys, xs = [.ref l] ∧ LstAt C σ2 l ys ∧ Q (enumV ys) (fun σ => LstAt C σ l ys) σ2) X) X)
    (hev : eval (.Call (.Name (Str.ofString "enumerate") p) [e] [] pos) env = (do callWith pos (← eval (.Name (Str.ofString "enumerate") p) env) [] (backTo pos (starEach [e] env)) (backToKw pos (keywordEach [] env))) := by kernel_rfl)
    (he : (backTo pos (starEach [e] env)).any (·.1) = false := by kernel_rfl) : Src C A env (.Tuple elts k0 tp) (.Call (.Name (Str.ofString "enumerate") p) [e] [] pos) ρ σ Q X := Src.enum hh h hev he
theorem enumV_map {α : Type} (f : α → V) (xs : List α) : enumV (xs.map f) = xs.zipIdx.map fun p => V.tup [.int (p.2 : Int), f p.1] := by
  unfold enumV
  rw [List.zipIdx_map, List.map_map]
  rfl
end
end Mine

set_option autoImplicit false
set_option linter.unusedVariables false
set_option maxRecDepth 100000
namespace Mine
open PySem PySem.W PySem.SeqAt PyProof.Rows

section
variable {prog : Program} {w : World} {A : Around} {E : Value → Shared → Prop} {s : Shared}
theorem isi_nested {P : Shared → Prop} (hP : ∀ s tk, P s → P { s with toks := tk }) {x : Value} {Tx : String} {tp : Addr} {cs : List Value} {vs : List Bool} {n : Nat} {tk : Tok} {s : Shared} {Q : PySem.Fin → Shared → Prop}
    (hx : s.TypeIs x Tx) (htp : s.heap.get? tp = some { cls := .type "tuple", data := .seq cs.toArray n }) (ha : AnswersAll P x cs vs) (hs : P s)
    (hq : ∀ tk', Q (.done (.ret (.bool (vs.any id)))) { s with toks := tk' }) : wpAny (model prog w) A (Builtin.«isinstance.nested» ⟨[x, .ref tp, .int 0 tk], []⟩) Q E s := by
  obtain ⟨h, g, d, t, os⟩ := s
  have hT2 : (⟨h, g, d, t, os⟩ : Shared).TypeIs (.ref tp) "tuple" := ⟨_, htp, rfl⟩
  have f1 := F.isi_sub_tuple
  repeat (any_goals (first | assumption | wp_step))
  refine wpAny_arrayLoop ?_
  simp only [Option.getD_some, List.toList_toArray]
  refine isinstance_items (dep := 0) hP cs vs _ _ ha hs fun tk' => ?_
  cases hv : vs.any id with
  | true =>
    simp only [if_true]
    repeat (any_goals (first | assumption | wp_step))
    exact hv ▸ hq tk'
  | false =>
    simp only [Bool.false_eq_true, if_false]
    repeat (any_goals (first | assumption | wp_step))
    exact hv ▸ hq tk'
theorem isi_tup {x : Value} {Tx : String} {tp : Addr} {cs : List Value} {vs : List Bool} {n : Nat} (ha : AnswersAll (fun s => s.TypeIs x Tx) x cs vs) :
    Meets (Builtin.«isinstance» ⟨[x, .ref tp], []⟩)
      (fun _ R s => s.TypeIs x Tx ∧ s.heap.get? tp = some { cls := .type "tuple", data := .seq cs.toArray n } ∧ ∀ tk, R (.ok (.ret (.bool (vs.any id)))) { s with toks := tk }) :=
  fun _ _ _ _ _ hs => isinstance_outer (isi_nested (fun _ tk h => h.toks tk) hs.1 hs.2.1 ha hs.1 hs.2.2) (Shared.TypeIs.not_mainsLoader hs.1)
end
section
variable {C : Cx} {A : Around} {σ : Store} {X : XP}
/-- isinstance(x, (list, tuple)) of a list or a tuple -/
theorem CallWP.isiLT {x : V} {t : Ty} {Q : V → Store → Prop} (ht : HasTy C σ x t) (h2 : t = .list ∨ t = .tup) (h : Q (.bool true) σ) : CallWP C A (.builtin "isinstance") [x, .tup [.typ "list", .typ "tuple"]] σ Q X := by
  intro s vs S r
  obtain ⟨_, _, rfl, r1, r2⟩ := r.two
  have b := ht.bears S r1
  obtain ⟨tp, ⟨it⟩, n, rfl, hg, hr⟩ := r2.tupI
  obtain ⟨_, _, hi, q1, q2⟩ := hr.two
  simp only at hi
  subst hi
  obtain rfl := q1.typI
  obtain rfl := q2.typI
  rcases h2 with rfl | rfl
  · obtain ⟨a, o, rfl, e, c⟩ := b
    exact call_isinstance (isi_tup (Tx := "list") (n := n) (cs := [.type "list", .type "tuple"]) (vs := [true, false]) (.cons (.of_true F.isi_meta_list F.sub_list_list) (.cons (.of_false_list (by decide +kernel) F.isi_meta_tuple F.sub_list_tuple) .nil))) ⟨⟨o, e, c⟩, hg, fun tk => EP.pureT S h (.bool _)⟩
  · obtain ⟨a, o, rfl, e, c⟩ := b
    exact call_isinstance (isi_tup (Tx := "tuple") (n := n) (cs := [.type "list", .type "tuple"]) (vs := [false, true]) (.cons (.of_false_tuple (by decide +kernel) F.isi_meta_list F.sub_tuple_list) (.cons (.of_true F.isi_meta_tuple F.sub_tuple_tuple) .nil))) ⟨⟨o, e, c⟩, hg, fun tk => EP.pureT S h (.bool _)⟩
end
end Mine

set_option autoImplicit false
set_option linter.unusedVariables false
namespace Mine
open PySem PySem.W PySem.SeqAt PyProof.Rows

section
variable {C : Cx} {A : Around} {env : Env} {ρ : Rho} {σ : Store} {X : XP} {s : Shared}
theorem CmpWP.isB {a b : Bool} {Q : V → Store → Prop} (h : Q (.bool (a == b)) σ) : CmpWP C A .Is (.bool a) (.bool b) σ Q X := by
  intro s a b S ra rb
  obtain rfl := ra.boolI
  obtain rfl := rb.boolI
  exact PyProof.Rows.is_bool (EP.pure S h (.bool _))
theorem CmpWP.isNotB {a b : Bool} {Q : V → Store → Prop} (h : Q (.bool (a != b)) σ) : CmpWP C A .IsNot (.bool a) (.bool b) σ Q X := by
  intro s a b S ra rb
  obtain rfl := ra.boolI
  obtain rfl := rb.boolI
  exact PyProof.Rows.isnot_bool (EP.pure S h (.bool _))
end
end Mine

set_option autoImplicit false
set_option linter.unusedVariables false
namespace Mine
open PySem PySem.W PySem.SeqAt PyProof.Rows
section
variable {C : Cx} {A : Around} {env : Env} {ρ : Rho} {σ : Store} {X : XP}
end
end Mine

set_option autoImplicit false
namespace Mine
end Mine

set_option autoImplicit false
set_option linter.unusedVariables false
set_option maxRecDepth 100000
namespace Mine
open PySem PySem.W PySem.SeqAt PyProof.Rows
/- own exceptions that fly through frames and loops; P: what stands of the store behind them -/
/-- the frames below stand, and are not this one -/
def FrO (C : Cx) (σ : Store) (h : Heap) (env : Env) (l : List Env) : Prop := Frs C σ h l ∧ ∀ e' ∈ l, ∀ L, e'.frame = some L → ¬ Own env L
/-- an own exception in this frame: made here, noted here, or come from a call -/
def XE (C : Cx) (env : Env) (l : List Env) (σ : Store) (h : Heap) (D : Addr) (P : Store → Prop) (v : Value) (s' : Shared) : Prop :=
  ∃ σ1 ρ1 h1 e, v = .ref e ∧ P σ1 ∧ St C σ1 { s' with heap := h1 } ∧ Fm C σ1 h1 env ρ1 ∧ FrO C σ1 h1 env l ∧ EvoF env σ h σ1 h1 ∧ h1.get? e = none ∧ h1.UpToSlots s'.heap ∧
    ((∃ vs, Heap.MadeExcOf h1 s'.heap e (.ref D) vs) ∨ ∃ B t fs, Hid C σ1 h1 fs ∧ (∀ b o, h1.get? b = some o → b ∉ fs → B.get? b = some o) ∧
      (Heap.HeldW B (env :: l) e (.ref D) (.ref t) env.locals s'.heap ∨ Heap.FlyingW B (env :: l) e (.ref D) (.ref t) s'.heap))
/-- an own exception out of a call -/
def XF (C : Cx) (σ : Store) (h : Heap) (l : List Env) (D : Addr) (P : Store → Prop) (v : Value) (s' : Shared) : Prop :=
  ∃ σ1 h1 e B t fs, v = .ref e ∧ P σ1 ∧ St C σ1 { s' with heap := h1 } ∧ Evo σ h σ1 h1 ∧ Hid C σ1 h1 fs ∧ (∀ b o, h1.get? b = some o → b ∉ fs → B.get? b = some o) ∧ h1.get? e = none ∧ h1.UpToSlots s'.heap ∧ Heap.FlyingW B l e (.ref D) (.ref t) s'.heap
section
variable {C : Cx} {A : Around} {env : Env} {ρ : Rho} {σ : Store} {X : XP} {s : Shared} {l : List Env} {D : Addr} {P : Store → Prop}
theorem FrO.evoF {σ' : Store} {h h' : Heap} (x : FrO C σ h env l) (e : EvoF env σ h σ' h') : FrO C σ' h' env l := by
  refine ⟨fun e' he => ?_, x.2⟩
  obtain ⟨hk, L, m, hf, hm, hn, hl⟩ := x.1 e' he
  have hw := x.2 e' he L hf
  have hm' := ns_kept hm fun o q => e.keep _ _ q hn hw
  obtain ⟨o, es, ep, ho, rest⟩ := hm
  refine ⟨hk, L, m, hf, hm', ?_, hl⟩
  cases q : σ' L with
  | none => rfl
  | some o2 =>
    rcases e.dom L o2 q with ⟨o', e'⟩ | e'
    · rw [hn] at e'; cases e'
    · rw [ho] at e'; cases e'
theorem XE.after {σ1 : Store} {h h1 : Heap} {v : Value} {s' : Shared} (x : XE C env l σ1 h1 D P v s') (k : EvoF env σ h σ1 h1) : XE C env l σ h D P v s' := by
  obtain ⟨a, b, c, d, e, f, g, i, j, q, r⟩ := x
  exact ⟨a, b, c, d, e, f, g, i, j, k.trans q, r⟩
theorem XF.after {σ1 : Store} {h h1 : Heap} {v : Value} {s' : Shared} (x : XF C σ1 h1 l D P v s') (k : Evo σ h σ1 h1) : XF C σ h l D P v s' := by
  obtain ⟨a, b, c, d, e, f, g, i, j, q, r⟩ := x
  exact ⟨a, b, c, d, e, f, g, i, j, k.trans q, r⟩
theorem Fm.frsO {h : Heap} (F : Fm C σ h env ρ) (hf : env.frame = some env.locals) (x : FrO C σ h env l) : Frs C σ h (env :: l) := F.frs hf x.1
/-- noted in this frame -/
theorem XE.note {h : Heap} {v : Value} {s' : Shared} {E : XP} {Q : Unit → Shared → Prop} (hfr : A.frames = some (env :: l)) (hf : env.frame = some env.locals) (x : XE C env l σ h D P v s')
    (k : ∀ h' σ1 ρ1 h1 e B t fs, v = .ref e → P σ1 → St C σ1 { s' with heap := h1 } → Fm C σ1 h1 env ρ1 → FrO C σ1 h1 env l → EvoF env σ h σ1 h1 → Hid C σ1 h1 fs → (∀ b o, h1.get? b = some o → b ∉ fs → B.get? b = some o) → h1.get? e = none → h1.UpToSlots h' → Heap.HeldW B (env :: l) e (.ref D) (.ref t) env.locals h' → Q () { s' with heap := h' }) :
    wpAny C.M A (noteFrame v env) Q E s' := by
  obtain ⟨σ1, ρ1, h1, e, rfl, p, S1, F1, O1, e1, hn, up, ⟨vs, hx⟩ | ⟨B, t, fs, H, cov, hh | fl⟩⟩ := x
  · have Fs := F1.frsO hf O1
    obtain ⟨t, he, htn, ht⟩ := hx.there
    unfold noteFrame
    simp only [hf]
    refine wpAny_bind (wpAny_field he rfl rfl ?_)
    rw [if_neg (fun q => by cases q)]
    have cov : ∀ b o, h1.get? b = some o → b ∉ (env :: l).filterMap (·.frame) → (hideAll h1 ((env :: l).filterMap (·.frame))).get? b = some o := fun b o q n => hideAll_get _ q n
    have fresh : ∀ b, h1.get? b = none → (hideAll h1 ((env :: l).filterMap (·.frame))).get? b = none := fun b hb => by
      cases hq : (hideAll h1 ((env :: l).filterMap (·.frame))).get? b with
      | none => rfl
      | some o' => have := of_hideAll _ hq; rw [hb] at this; cases this
    refine wpAny_entryW (base := hideAll h1 ((env :: l).filterMap (·.frame))) (a0 := .ref t) hfr ((Fs.fun fun b hb => hb).of_keeps fun b o hb _ => ⟨o, hx.keeps b o hb, rfl⟩) hf he (fun b o hb => hx.keeps b o (of_hideAll _ hb)) (fresh e hx.new) rfl (show 1 < 6 by decide) rfl fun h' hN => ?_
    obtain ⟨k1, k2, k3, k4⟩ := hN
    exact k h' σ1 ρ1 h1 e _ t _ rfl p S1 F1 O1 e1 Fs.hid cov hn (up.trans k4) ⟨k1, fresh e hx.new, k2, k3⟩
  · exact wpAny_noteFrame_againW hf hh.2.2.2 (k s'.heap σ1 ρ1 h1 e B t fs rfl p S1 F1 O1 e1 H cov hn up hh)
  · exact wpAny_looks_onW hfr hf fl fun h' hh up' => k h' σ1 ρ1 h1 e B t fs rfl p S1 F1 O1 e1 H cov hn (up.trans up') hh
theorem held_back {l : List Env} {B : Heap} {e L : Addr} {cls a0 : Value} {s : Shared} {M : Model} {E : XP} {Q : Unit → Shared → Prop} (hh : Heap.HeldW B l e cls a0 L s.heap)
    (hQ : ∀ h', Heap.HeldW B l e cls a0 L h' → s.heap.UpToSlots h' → Q () { s with heap := h' }) : wpAny M A (do
      if (← field (.ref e) 1) == .none then unsupported "frame.own-activation:exception-without-traceback"
      setFlight (.ref e) (some L)) Q E s := by
  obtain ⟨hkb, hen, hl, oe, vs, T, oT, ts, he, hcls, hd, h1, hnT, hTe, hT, hdT, h3⟩ := hh
  have hsz3 : 3 < ts.size := (Array.getElem?_eq_some_iff.mp h3).1
  have other : ∀ b, b ≠ T → (s.heap.update T (Obj.mapFields (·.setIfInBounds 3 ((some L : Option Addr).elim Value.none fun f => rawInt f)))).get? b = s.heap.get? b :=
    fun b hb => Heap.get?_update_other _ _ (Ne.symm hb)
  have noRecord : ∀ b o, s.heap.get? b = some o → (∀ vs, o.data ≠ .fields vs) → b ≠ T := fun b o hb hnf q => by
    rw [q, hT] at hb; injection hb with hb; subst hb; exact hnf ts hdT
  refine wpAny_bind (wpAny_field he hd h1 ?_)
  rw [if_neg (fun q => by cases q)]
  unfold setFlight
  refine wpAny_bind (wpAny_field he hd h1 ?_)
  rw [if_pos (show (Value.ref T != Value.none) = true from by simp)]
  refine wpAny_setField hT hdT hsz3 (hQ _ ⟨fun b o hbo => (other b fun q => by rw [q, hnT] at hbo; cases hbo).trans (hkb b o hbo), hen,
    hl.of_keeps fun b o hb hnf => ⟨o, (other b (noRecord b o hb hnf)).trans hb, rfl⟩, ?_⟩ fun b o hb hn => ⟨o.slots, (other b (noRecord b o hb hn)).trans hb⟩)
  exact ⟨oe, vs, T, _, _, (other e (Ne.symm hTe)).trans he, hcls, hd, h1, hnT, hTe, Heap.get?_update_self _ hT (Obj.isFreed_of_fields (Obj.data_mapFields hdT _)), Obj.data_mapFields hdT _, by simp [hsz3]⟩
/-- noted, and come back out of a loop -/
theorem XE.back {h : Heap} {v : Value} {s' : Shared} {E : XP} (hfr : A.frames = some (env :: l)) (hf : env.frame = some env.locals) (x : XE C env l σ h D P v s') : wpAny C.M A (noteFrame v env) (fun _ s'' => cameBackBy C.M A env (XE C env l σ h D P) v s'') E s' :=
  x.note hfr hf fun h' σ1 ρ1 h1 e B t fs e0 p S1 F1 O1 e1 H cov hn up hh => by
    subst e0
    unfold cameBackBy
    rw [hf]
    exact held_back hh fun h'' hh' up' => ⟨σ1, ρ1, h1, e, rfl, p, S1, F1, O1, e1, hn, up.trans up', .inr ⟨B, t, fs, H, cov, .inl hh'⟩⟩
/-- out of this frame -/
theorem XE.leaves {h : Heap} {v : Value} {s' : Shared} {E : XP} {Q : Unit → Shared → Prop} (hfr : A.frames = some (env :: l)) (hf : env.frame = some env.locals) (x : XE C env l σ h D P v s')
    (k : ∀ h' σ1 ρ1 h1 e B t fs, v = .ref e → P σ1 → St C σ1 { s' with heap := h1 } → Fm C σ1 h1 env ρ1 → EvoF env σ h σ1 h1 → Hid C σ1 h1 fs → (∀ b o, h1.get? b = some o → b ∉ fs → B.get? b = some o) → h1.get? e = none → h1.UpToSlots h' → Heap.FlyingW B l e (.ref D) (.ref t) h' → Q () { s' with heap := h' }) : wpAny C.M A (leaving env v) Q E s' := by
  obtain ⟨σ1, ρ1, h1, e, rfl, p, S1, F1, O1, e1, hn, up, ⟨vs, hx⟩ | ⟨B, t, fs, H, cov, hh | fl⟩⟩ := x
  · have Fs := F1.frsO hf O1
    have cov : ∀ b o, h1.get? b = some o → b ∉ (env :: l).filterMap (·.frame) → (hideAll h1 ((env :: l).filterMap (·.frame))).get? b = some o := fun b o q n => hideAll_get _ q n
    refine wpAny_leaves_madeW (base := hideAll h1 ((env :: l).filterMap (·.frame))) (h := h1) hfr hf (fun b o q => of_hideAll _ q) (Fs.fun fun b hb => hb) hx fun h' t x1 x2 x3 x4 => ?_
    exact k h' σ1 ρ1 h1 e _ t _ rfl p S1 F1 e1 Fs.hid cov hn (up.trans x4) x1
  · unfold leaving
    refine wpAny_bind (wpAny_noteFrame_againW hf hh.2.2.2 ?_)
    refine wpAny_landsW hh fun h' hfl u' => ?_
    obtain ⟨k1, k2, ⟨_, _, k3⟩, k4⟩ := hfl
    exact k h' σ1 ρ1 h1 e B t fs rfl p S1 F1 e1 H cov hn (up.trans u') ⟨k1, k2, k3, k4⟩
  · exact wpAny_leaves_onW hfr hf fl fun h' x1 u' => k h' σ1 ρ1 h1 e B t fs rfl p S1 F1 e1 H cov hn (up.trans u') x1
/-- statements that may raise D -/
def ExR (C : Cx) (A : Around) (env : Env) (l : List Env) (D : Addr) (P : Store → Prop) (st : Stmt) (ρ : Rho) (σ : Store) (Q : FV → Rho → Store → Prop) : Prop :=
  ∀ s, St C σ s → Fm C σ s.heap env ρ → FrO C σ s.heap env l → wpAny C.M A (exec st env) (SP C env σ s.heap Q) (XE C env l σ s.heap D P) s
def ExsR (C : Cx) (A : Around) (env : Env) (l : List Env) (D : Addr) (P : Store → Prop) (ss : List Stmt) (ρ : Rho) (σ : Store) (Q : FV → Rho → Store → Prop) : Prop :=
  ∀ s, St C σ s → Fm C σ s.heap env ρ → FrO C σ s.heap env l → wpAny C.M A (execs ss env) (SP C env σ s.heap Q) (XE C env l σ s.heap D P) s
def EvR (C : Cx) (A : Around) (env : Env) (l : List Env) (D : Addr) (P : Store → Prop) (e : Expr) (ρ : Rho) (σ : Store) (Q : V → Store → Prop) : Prop :=
  ∀ s, St C σ s → Fm C σ s.heap env ρ → FrO C σ s.heap env l → wpAny C.M A (eval e env) (EP C σ s.heap Q) (XE C env l σ s.heap D P) s
def CallX (C : Cx) (A : Around) (l : List Env) (D : Addr) (P : Store → Prop) (f : Value) (args : List V) (σ : Store) (Q : V → Store → Prop) : Prop :=
  ∀ s vs, St C σ s → VRs s.heap vs args → Frs C σ s.heap l → wpAny C.M A (call f vs) (EP C σ s.heap Q) (XF C σ s.heap l D P) s
def ThenR (C : Cx) (A : Around) (env : Env) (l : List Env) (D : Addr) (P : Store → Prop) (ss : List Stmt) (Q : FV → Rho → Store → Prop) (g : FV) (ρ : Rho) (σ : Store) : Prop :=
  match g with
  | .next => ExsR C A env l D P ss ρ σ Q
  | g => Q g ρ σ
variable {Q : FV → Rho → Store → Prop}
theorem ExR.of {st : Stmt} (h : Ex C A env st ρ σ Q (fun _ _ => False)) : ExR C A env l D P st ρ σ Q :=
  fun s S F _ => wpAny_mono (h s S F) (fun _ _ z => z) fun _ _ z => z.elim
theorem ExsR.of {ss : List Stmt} (h : Exs C A env ss ρ σ Q (fun _ _ => False)) : ExsR C A env l D P ss ρ σ Q :=
  fun s S F _ => wpAny_mono (h s S F) (fun _ _ z => z) fun _ _ z => z.elim
theorem ExsR.cons {st : Stmt} {ss : List Stmt} (h : ExR C A env l D P st ρ σ (ThenR C A env l D P ss Q)) : ExsR C A env l D P (st :: ss) ρ σ Q := by
  intro s S F O
  refine wpAny_execs_cons (wpAny_mono (h s S F O) ?_ fun _ _ z => z)
  rintro f s1 ⟨g, ρ1, σ1, h1, r1, S1, F1, e1⟩
  cases r1 with
  | next => exact wpAny_mono (h1 s1 S1 F1 (O.evoF e1)) (fun _ _ z => z.after e1) fun _ _ z => z.after e1
  | brk => exact ⟨_, _, _, h1, .brk, S1, F1, e1⟩
  | cont => exact ⟨_, _, _, h1, .cont, S1, F1, e1⟩
  | ret r => exact ⟨_, _, _, h1, .ret r, S1, F1, e1⟩
/-- a statement that raises nothing, then on -/
theorem ExsR.step {st : Stmt} {ss : List Stmt} (I : Rho → Store → Prop) (h1 : Ex C A env st ρ σ (fun g ρ' σ' => g = .next ∧ I ρ' σ') (fun _ _ => False)) (h2 : ∀ ρ' σ', I ρ' σ' → ExsR C A env l D P ss ρ' σ' Q) : ExsR C A env l D P (st :: ss) ρ σ Q :=
  ExsR.cons (ExR.of (h1.mono fun g ρ' σ' ⟨e, p⟩ => by subst e; exact h2 ρ' σ' p))
theorem ExR.ite {t : Expr} {b1 b2 : List Stmt} {pos : Pos} (h : Tst C A env t ρ σ (fun b σ1 => if b then ExsR C A env l D P b1 ρ σ1 Q else ExsR C A env l D P b2 ρ σ1 Q) (fun _ _ => False)) : ExR C A env l D P (.If t b1 b2 pos) ρ σ Q := by
  intro s S F O
  refine wpAny_If (wpAny_mono (h s S F) ?_ fun _ _ z => z.elim)
  rintro b s1 ⟨σ1, h1, S1, e1⟩
  have e2 := e1.evoF F.own
  cases b
  · exact wpAny_mono (h1 s1 S1 (F.evo e1) (O.evoF e2)) (fun _ _ z => z.after e2) fun _ _ z => z.after e2
  · exact wpAny_mono (h1 s1 S1 (F.evo e1) (O.evoF e2)) (fun _ _ z => z.after e2) fun _ _ z => z.after e2
/-- raise x(e₀) -/
theorem ExR.raise {e₀ : Expr} {x : Str} {np cpos pos : Pos} {bm : List Value} {B newId initId : String} (O : OwnCls x D bm newId C.mg C.h₀) (FB : ExcBaseFacts B newId initId bm) (hh : A.handled = none)
    (hx : env.kindOf x = some .globalImplicit) (hg : env.globals = mainGlobals) (h : Ev C A env e₀ ρ σ (fun _ σ1 => P σ1) (fun _ _ => False))
    (hd : (x == ("__debug__" : Str)) = false) (he : starEach [e₀] env = [(false, eval e₀ env)]) : ExR C A env l D P (.Raise (some (.Call (.Name x np) [e₀] [] cpos)) none pos) ρ σ Q := by
  intro s1 S1 F1 O1
  obtain ⟨tl, N, nm, q, bs, hdct, sn, sub, ab, col, dd, k0, k1, k2, k3, k5, mN, hC, hN, hni, T⟩ := O.obj
  refine wpAny_Raise_call_subT (C := D) (nm := nm) (q := q) (N := N) (bs := bs) (bm := tl) (hdct := hdct) (sn := sn) (sub := sub) (ab := ab) (col := col) (dd := dd) (k0 := k0) (k1 := k1) (k2 := k2) (k3 := k3) (k5 := k5)
    FB (mN := mN) (T.hasType FB.hasBase) hh (by rw [he]; rfl) hni (Calls.Name_function_global F1.fn hx (Calls.loadGlobal_global (mg := C.mg) (by rw [hg]; exact C.hg.keeps S1.base) O.bound ⟨rfl, ?_⟩) hd)
  rw [he]
  refine evalArgs_sp rfl (Calls.spliced_cons (wpAny_mono (h s1 S1 F1) ?_ fun _ _ z => z.elim))
  rintro v s2 ⟨y, σ2, p, r2, S2, e2⟩
  refine Calls.spliced_nil ⟨rfl, (by show 1 ≤ sizeLine; decide), S2.base _ _ hC, hN.keeps S2.base, T.keeps S2.base, fun h' e hm => ?_⟩
  exact ⟨σ2, ρ, s2.heap, e, rfl, p, S2, F1.evo e2, O1.evoF (e2.evoF F1.own), e2.evoF F1.own, hm.new, Heap.UpToSlots.of_keeps hm.keeps, .inl ⟨_, hm⟩⟩
/-- the turns of a for, item by item -/
def ForR (C : Cx) (A : Around) (env : Env) (l : List Env) (D : Addr) (P : Store → Prop) (target : Expr) (body : List Stmt) (ok : Store → Prop) (Q : FV → Rho → Store → Prop) : List V → Rho → Store → Prop
  | [], ρ, σ => Q .next ρ σ
  | x :: xs, ρ, σ => Asg C A env target x ρ σ (fun ρ1 σ1 => ExsR C A env l D P body ρ1 σ1 (fun g ρ2 σ2 => match g with
      | .next | .cont => ok σ2 ∧ ForR C A env l D P target body ok Q xs ρ2 σ2
      | .brk => Q .next ρ2 σ2
      | .ret v => Q (.ret v) ρ2 σ2)) (fun _ _ => False)
theorem forR_turns {target : Expr} {it : Value} {body : List Stmt} {ow : Addr → Prop} {J : Nat → Heap → Prop} {ok : Store → Prop} {xs : List V} (W : Itr C A target it ow J ok xs) {σ0 : Store} {h0 : Heap}
    (hfr : A.frames = some (env :: l)) (hf : env.frame = some env.locals)
    (fr : ∀ b, ow b → h0.get? b = none) (fro : ∀ b, ow b → ¬ Own env b) (frb : ∀ b, ow b → C.h₀.get? b = none) (O0 : FrO C σ0 h0 env l) :
    ∀ m k ρ σ s, xs.length - k = m → ok σ → ForR C A env l D P target body ok Q (xs.drop k) ρ σ → St C σ s → Fm C σ s.heap env ρ → EvoF env σ0 h0 σ s.heap → J k s.heap → (∀ b, ow b → σ b = none) →
      codeAny C.M A (.forLoop target it body [] env) (fun r s' => match r with | .ok f => SP C env σ0 h0 Q f s' | .error v => cameBackBy C.M A env (XE C env l σ0 h0 D P) v s') s := by
  intro m
  induction m using Nat.strongRecOn with
  | ind m ih =>
  intro k ρ σ s hm hok tn S F e0 hJ no
  refine codeAny_of_tree ?_
  show wpAny C.M _ ((forTurn target it body [] env).onRaise (fun x => do noteFrame x env; theTreesLotGoes x)) _ _ s
  rw [show A.under (.forLoop target it body [] env) = A from Around.under_of_weight (by rfl)]
  refine wpAny_noted ?_
  unfold forTurn
  refine wpAny_bind (wpAny_standAt (wpAny_bind (wpAny_onRaise ?_)))
  have nt : ∀ b o, ow b → s.heap.get? b = some o → ¬ Imm o := fun b o q => W.notTup k _ b o hJ q
  cases hx : xs[k]? with
  | none =>
    have tn : Q .next ρ σ := by
      rw [List.drop_eq_nil_of_le (List.getElem?_eq_none_iff.mp hx)] at tn; exact tn
    refine W.done k σ s _ _ S hok hJ hx no fun h' tk kp => ?_
    refine wpAny_pure ⟨rfl, codeAny_of_tree ?_⟩
    show wpAny C.M _ (do return Fin.done (← (execs [] env).onRaise (fun x => do noteFrame x env; theTreesLotGoes x))) _ _ _
    refine wpAny_bind (wpAny_noted (wpAny_execs_nil (wpAny_pure ?_)))
    exact ⟨.next, ρ, σ, tn, .next, S.ow kp nt no frb, F.ow kp nt fro, e0.ow kp fr⟩
  | some x =>
    obtain ⟨hk, rfl⟩ := List.getElem?_eq_some_iff.mp hx
    rw [List.drop_eq_getElem_cons hk] at tn
    refine W.more k σ s _ _ _ S hok hJ hx no fun v h' tk rv kp nt' go => ?_
    refine wpAny_bind (go _ _ fun h'' tk' J' kp' => ?_)
    have kp2 : ∀ b o, ¬ ow b → s.heap.get? b = some o → h''.get? b = some o := fun b o q e => kp' b o q (kp b o q e)
    have S2 : St C σ { s with heap := h'', toks := tk' } := S.ow kp2 nt no frb
    have F2 : Fm C σ h'' env ρ := F.ow kp2 nt fro
    have rv2 : VR h'' v xs[k] := rv.mono (tk_ow kp' nt')
    refine wpAny_bind (wpAny_mono (tn { s with heap := h'', toks := tk' } v S2 F2 rv2) ?_ fun _ _ z => z.elim)
    rintro _ s3 ⟨ρ1, σ1, q1, S3, F3, e3⟩
    have e03 : EvoF env σ0 h0 σ1 s3.heap := (e0.ow kp2 fr).trans e3
    refine wpAny_bind (wpAny_mono (q1 s3 S3 F3 (O0.evoF e03)) ?_ ?_)
    · rintro f s4 ⟨g, ρ2, σ2, q2, r2, S4, F4, e4⟩
      have e04 : EvoF env σ0 h0 σ2 s4.heap := e03.trans e4
      have al2 : ∀ b, ow b → ∃ o, h''.get? b = some o := fun b q => W.there _ _ b J' q
      have e24 : EvoF env σ h'' σ2 s4.heap := e3.trans e4
      have kpo : ∀ b o, ow b → h''.get? b = some o → s4.heap.get? b = some o := fun b o q e => (e24.keep b o e (no b q) (fro b q)).exact (W.notD _ _ b o J' q e)
      have no4 : ∀ b, ow b → σ2 b = none := fun b q => by
        cases z : σ2 b with
        | none => rfl
        | some o =>
          rcases e24.dom b o z with ⟨o', e'⟩ | e'
          · rw [no b q] at e'; cases e'
          · obtain ⟨o', e2⟩ := al2 b q
            rw [e2] at e'; cases e'
      cases r2 with
      | next => exact wpAny_pure ⟨rfl, ih (xs.length - (k + 1)) (by (first | lia | omega)) (k + 1) ρ2 σ2 s4 rfl q2.1 q2.2 S4 F4 e04 (W.frame _ _ _ J' e24.tup kpo) no4⟩
      | cont => exact wpAny_pure ⟨rfl, ih (xs.length - (k + 1)) (by (first | lia | omega)) (k + 1) ρ2 σ2 s4 rfl q2.1 q2.2 S4 F4 e04 (W.frame _ _ _ J' e24.tup kpo) no4⟩
      | brk => exact wpAny_pure ⟨.next, ρ2, σ2, q2, .next, S4, F4, e04⟩
      | ret r => exact wpAny_pure ⟨_, ρ2, σ2, q2, .ret r, S4, F4, e04⟩
    · intro v s4 z
      exact (z.after e03).back hfr hf
theorem ExR.for {target iter : Expr} {body : List Stmt} {pos : Pos} (hfr : A.frames = some (env :: l)) (hf : env.frame = some env.locals)
    (h : Src C A env target iter ρ σ (fun xs ok σ1 => ForR C A env l D P target body ok Q xs ρ σ1) (fun _ _ => False))
    (hs : ∀ x, foldedSetIterable iter env x = pure x := by intro _; kernel_rfl) : ExR C A env l D P (.For target iter body [] pos) ρ σ Q := by
  intro s S F O
  refine wpAny_For (wpAny_mono (h s S F) (fun x s1 h1 => wpAny_mono h1 ?_ fun _ _ z => z.elim) fun _ _ z => z.elim) hs
  rintro it s2 ⟨xs, ok, σ', ow, J, q, W, hok, S2, e2, fr, hJ⟩
  refine codeAny_mono (forR_turns (D := D) (P := P) (Q := Q) (σ0 := σ) (h0 := s.heap) (xs := xs) W hfr hf (fun b w => (fr b w).1) (fun b w z => ?_) (fun b w => ?_) O _ 0 ρ σ' s2 rfl hok q S2 (F.evo e2) (e2.evoF F.own) hJ (fun b w => (fr b w).2)) ?_
  · obtain ⟨o, e⟩ := F.own_there z
    rw [(fr b w).1] at e; cases e
  · cases z : C.h₀.get? b with
    | none => rfl
    | some o => have := S.base _ _ z; rw [(fr b w).1] at this; cases this
  · rintro (e | f) s' z
    · exact z
    · exact z
theorem ForR.inv {α : Type} {target : Expr} {body : List Stmt} {ok : Store → Prop} (enc : α → V) (I : List α → Rho → Store → Prop)
    (step : ∀ x xs ρ σ, I (x :: xs) ρ σ → Asg C A env target (enc x) ρ σ (fun ρ1 σ1 => ExsR C A env l D P body ρ1 σ1 (LpQ ok (I xs) Q)) (fun _ _ => False))
    (done : ∀ ρ σ, I [] ρ σ → Q .next ρ σ) : ∀ xs ρ σ, I xs ρ σ → ForR C A env l D P target body ok Q (xs.map enc) ρ σ
  | [], ρ, σ, h => done ρ σ h
  | x :: xs, ρ, σ, h => by
    refine (step x xs ρ σ h).mono fun ρ1 σ1 h1 s S F O => wpAny_mono (h1 s S F O) (fun _ _ z => z.mono fun g ρ2 σ2 h2 => ?_) fun _ _ z => z
    cases g with
    | next => exact ⟨h2.1, ForR.inv enc I step done xs ρ2 σ2 h2.2⟩
    | cont => exact ⟨h2.1, ForR.inv enc I step done xs ρ2 σ2 h2.2⟩
    | brk => exact h2
    | ret v => exact h2
/-- f(args), where the call may raise -/
theorem EvR.call {func : Expr} {args : List Expr} {pos : Pos} {Q : V → Store → Prop} (hf : env.frame = some env.locals)
    (h : Ev C A env func ρ σ (fun fx σ1 => ∃ f, fx = .ref f ∧ keepIn C.K (.ref f) = true ∧ Ags C A env pos args ρ σ1 (fun xs σ2 => CallX C A (env :: l) D P (.ref f) xs σ2 Q) (fun _ _ => False)) (fun _ _ => False))
    (hev : eval (.Call func args [] pos) env = (do callWith pos (← eval func env) [] (backTo pos (starEach args env)) (backToKw pos (keywordEach [] env))) := by kernel_rfl)
    (he : (backTo pos (starEach args env)).any (·.1) = false := by kernel_rfl) : EvR C A env l D P (.Call func args [] pos) ρ σ Q := by
  intro s S F O
  rw [hev]
  refine wpAny_bind (wpAny_mono (h s S F) ?_ fun _ _ z => z.elim)
  rintro v s1 ⟨x, σ1, ⟨f, rfl, kp, q⟩, r1, S1, e1⟩
  cases r1
  refine callWith_of (first := []) (P := fun h => ∀ b o, C.h₀.get? b = some o → h.get? b = some o) (by rw [he]; rfl) (Kp.ref kp) ?_
  refine evalArgs_sp he (wpAny_mono (q s1 S1 (F.evo e1)) ?_ fun _ _ z => z.elim)
  rintro vs s2 ⟨xs, σ2, q2, r2, S2, e2⟩
  have E2 := e1.trans e2
  have F2 := F.evo E2
  have O2 := O.evoF (E2.evoF F.own)
  refine ⟨S2.base, wpAny_mono (q2 s2 _ S2 r2 (F2.frsO hf O2)) (fun _ _ z => (z.after e2).after e1) ?_⟩
  rintro v s3 ⟨σ3, h3, e, B, t, fs, rfl, p, S3, e3, H, cov, hn, up, fl⟩
  exact ⟨σ3, ρ, h3, e, rfl, p, S3, F2.evo e3, O2.evoF (e3.evoF F2.own), (E2.trans e3).evoF F.own, hn, up, .inr ⟨B, t, fs, H, cov, .inr fl⟩⟩
theorem ExR.expr {e : Expr} {pos : Pos} (h : EvR C A env l D P e ρ σ (fun x σ1 => Q .next ρ σ1))
    (hi : interactive env = false := by kernel_rfl) (hs : swapsWith e none pos.line env = pure false := by kernel_rfl) : ExR C A env l D P (.Expr e pos) ρ σ Q := by
  intro s S F O
  refine wpAny_Expr_any (wpAny_mono (h s S F O) ?_ fun _ _ z => z) hi hs
  rintro v s1 ⟨x, σ1, h1, r1, S1, e1⟩
  exact ⟨_, _, _, h1, .next, S1, F.evo e1, e1.evoF F.own⟩
theorem ExR.assign {t value : Expr} {pos : Pos} (h : EvR C A env l D P value ρ σ (fun x σ1 => Asg C A env t x ρ σ1 (fun ρ' σ' => Q .next ρ' σ') (fun _ _ => False)))
    (hs : swapsWithSole [t] value pos.line env = pure false := by kernel_rfl) (hw : swappedStores [t] value env = pure none := by kernel_rfl)
    (ht : (assignEach [t] env).map (·.2) = [assign t env] := by kernel_rfl) : ExR C A env l D P (.Assign [t] value pos) ρ σ Q := by
  intro s S F O
  refine wpAny_Assign_stores (wpAny_mono (h s S F O) ?_ fun _ _ z => z) hs hw
  rintro v s1 ⟨x, σ1, h1, r1, S1, e1⟩
  rw [ht]
  refine wpAny_mono (h1 s1 v S1 (F.evo e1) r1) ?_ fun _ _ z => z.elim
  rintro _ s2 ⟨ρ', σ', q, S2, F2, e2⟩
  exact ⟨_, _, _, q, .next, S2, F2, (e1.evoF F.own).trans e2⟩
end
end Mine

set_option autoImplicit false
set_option linter.unusedVariables false
set_option maxRecDepth 100000
namespace Mine
open PySem PySem.W PySem.SeqAt PyProof.Rows
/-- a code that may raise D -/
def CodX (C : Cx) (A : Around) (l : List Env) (D : Addr) (P : Store → Prop) (f : Value) (args : List V) (σ : Store) (Q : V → Store → Prop) : Prop :=
  ∀ s vs, St C σ s → VRs s.heap vs args → Frs C σ s.heap l → codeAny C.M A (.call f ⟨vs, []⟩) (fun r s' => match r with | .ok (.ret v) => EP C σ s.heap Q v s' | .error v => XF C σ s.heap l D P v s' | _ => False) s
/-- statements that look at the frames and raise nothing -/
def ExsO (C : Cx) (A : Around) (env : Env) (l : List Env) (ss : List Stmt) (ρ : Rho) (σ : Store) (Q : FV → Rho → Store → Prop) : Prop :=
  ∀ s, St C σ s → Fm C σ s.heap env ρ → FrO C σ s.heap env l → wpAny C.M A (execs ss env) (SP C env σ s.heap Q) (fun _ _ => False) s
section
variable {C : Cx} {A : Around} {env : Env} {ρ : Rho} {σ : Store} {X : XP} {s : Shared} {l : List Env} {D : Addr} {P : Store → Prop}
theorem evo_out {s₁ : Shared} {fd : FuncData} {f : Addr} {σ' : Store} {h' : Heap} (keep : ∀ b o, s.heap.get? b = some o → s₁.heap.get? b = some o)
    (hup : ∀ n c, (callEnvC fd s.heap.objs.size f).cells.lookup n = some c → s.heap.objs.size < c) (e : EvoF (callEnvC fd s.heap.objs.size f) σ s₁.heap σ' h') : Evo σ s.heap σ' h' := by
  refine ⟨fun b o hb n => ?_, fun b o hb => ?_, e.mono, fun a o i h => e.tup _ _ i (keep _ _ h)⟩
  · refine e.keep b o (keep b o hb) n ?_
    have hlt := Heap.lt_size hb
    rintro (q | ⟨x, hx⟩)
    · rw [q] at hlt; exact Nat.lt_irrefl _ hlt
    · exact absurd (hup x b hx) (Nat.not_lt.mpr (Nat.le_of_lt hlt))
  · rcases e.dom b o hb with h | h
    · exact .inl h
    · right
      cases q : s.heap.get? b with
      | none => rfl
      | some y => rw [keep b y q] at h; cases h
theorem frO_in {s₁ : Shared} {fd : FuncData} {f : Addr} (keep : ∀ b o, s.heap.get? b = some o → s₁.heap.get? b = some o)
    (hup : ∀ n c, (callEnvC fd s.heap.objs.size f).cells.lookup n = some c → s.heap.objs.size < c) (Fs : Frs C σ s.heap l) : FrO C σ s₁.heap (callEnvC fd s.heap.objs.size f) l := by
  refine ⟨Fs.evo (Evo.ext keep), fun e' he L hf => ?_⟩
  obtain ⟨hk, L', m, hf', hm, hn, hl⟩ := Fs e' he
  rw [hf'] at hf; cases hf
  obtain ⟨o, es, ep, ho, rest⟩ := hm
  have hlt := Heap.lt_size ho
  rintro (q | ⟨x, hx⟩)
  · rw [q] at hlt; exact Nat.lt_irrefl _ hlt
  · exact absurd (hup x _ hx) (Nat.not_lt.mpr (Nat.le_of_lt hlt))
theorem CodX.fn {f : Addr} {o : Obj} {fd : FuncData} {body : List Stmt} {names : List Str} {args : List V} {Q : V → Store → Prop}
    (ho : C.h₀.get? f = some o) (hd : o.data = .func fd) (hlim : C.h₀.NoLimit) (hcd : C.h₀.CodeRec fd.code fd.qualname) (hbody : fd.body = .stmts body)
    (hbind : ∀ vals : List Value, vals.length = args.length → bindArgs fd ⟨vals, []⟩ = pure (names.zip vals)) (hclo : fd.closure = []) (nd : names.Nodup)
    (hkind : ∀ x ∈ names, fd.scope.names.lookup x = some .local ∨ (fd.scope.names.lookup x = some .cell ∧ ∀ L, ((cellsFrom L fd.scope.names []).lookup x).isSome = true))
    (hroom : A.depth < recursionLimit) (hsc : scopeOk fd.scope = true) (hco : fd.scope.isCoroutine = false) (hgen : fd.scope.isGenerator = false) (hk : fd.scope.kind = .function) (hfr : A.frames = some l)
    (h : ∀ L, ExsR C (A.deeper (callEnvC fd L f)) (callEnvC fd L f) l D P body (names.zip args) σ (fun g _ σ' => Q g.val σ')) : CodX C A l D P (.ref f) args σ Q := by
  intro s vs S r Fs
  have hk' : ∀ b o, C.h₀.get? b = some o → s.heap.get? b = some o := S.base
  refine codeAny_call_cells (fd := fd) hroom (hk' _ _ ho) hd (hlim.keeps hk') (hcd.keeps hk') hbody (hbind vs r.length) hclo ?_ (fun s₁ x => ?_) hco hgen hk
  · intro y hy
    rcases hkind y.1 (List.of_mem_zip hy).1 with q | ⟨q, q'⟩
    · exact .inl q
    · exact .inr ⟨q, q' _⟩
  · obtain ⟨S₁, F₁, keep⟩ := S.callee r nd hk hsc x
    have hup : ∀ n c, (callEnvC fd s.heap.objs.size f).cells.lookup n = some c → s.heap.objs.size < c := fun n c hc => x.above n c (mem_of_lookup hc)
    refine wpAny_mono (h s.heap.objs.size s₁ S₁ F₁ (frO_in keep hup Fs)) (fun fl s' z => ?_) (fun v s' z => ?_)
    · have y := EP.ret S keep hup z
      cases fl <;> exact y
    · refine z.leaves (Around.frames_deeper hfr) rfl fun h' σ1 ρ1 h1 e B t fs e0 p S1 F1 e1 H cov hn up fl => ?_
      exact ⟨σ1, h1, e, B, t, fs, e0, p, S1, evo_out keep hup e1, H, cov, hn, up, fl⟩
theorem CodX.call {f : Value} {args : List V} {Q : V → Store → Prop} (h : CodX C A l D P f args σ Q) : CallX C A l D P f args σ Q := by
  intro s vs S r Fs
  refine wpAny_call (codeAny_mono (h s vs S r Fs) ?_)
  rintro (e | f) s' z
  · exact z
  · cases f <;> first | exact z | exact z.elim
theorem CallF.fnO {f : Addr} {o : Obj} {fd : FuncData} {body : List Stmt} {names : List Str} {args : List V} {Q : V → Store → Prop}
    (ho : C.h₀.get? f = some o) (hd : o.data = .func fd) (hlim : C.h₀.NoLimit) (hcd : C.h₀.CodeRec fd.code fd.qualname) (hbody : fd.body = .stmts body)
    (hbind : ∀ vals : List Value, vals.length = args.length → bindArgs fd ⟨vals, []⟩ = pure (names.zip vals)) (hclo : fd.closure = []) (nd : names.Nodup)
    (hkind : ∀ x ∈ names, fd.scope.names.lookup x = some .local ∨ (fd.scope.names.lookup x = some .cell ∧ ∀ L, ((cellsFrom L fd.scope.names []).lookup x).isSome = true))
    (hroom : A.depth < recursionLimit) (hsc : scopeOk fd.scope = true) (hco : fd.scope.isCoroutine = false) (hgen : fd.scope.isGenerator = false) (hk : fd.scope.kind = .function) (hfr : A.frames = some l)
    (h : ∀ L, ExsO C (A.deeper (callEnvC fd L f)) (callEnvC fd L f) l body (names.zip args) σ (fun g _ σ' => Q g.val σ')) : CallF C A l (.ref f) args σ Q X := by
  intro s vs S r Fs
  have hk' : ∀ b o, C.h₀.get? b = some o → s.heap.get? b = some o := S.base
  refine wpAny_call (codeAny_call_cells (fd := fd) hroom (hk' _ _ ho) hd (hlim.keeps hk') (hcd.keeps hk') hbody (hbind vs r.length) hclo ?_ (fun s₁ x => ?_) hco hgen hk)
  · intro y hy
    rcases hkind y.1 (List.of_mem_zip hy).1 with q | ⟨q, q'⟩
    · exact .inl q
    · exact .inr ⟨q, q' _⟩
  · obtain ⟨S₁, F₁, keep⟩ := S.callee r nd hk hsc x
    have hup : ∀ n c, (callEnvC fd s.heap.objs.size f).cells.lookup n = some c → s.heap.objs.size < c := fun n c hc => x.above n c (mem_of_lookup hc)
    refine wpAny_mono (h s.heap.objs.size s₁ S₁ F₁ (frO_in keep hup Fs)) (fun fl s' z => ?_) (fun v s' z => z.elim)
    have y := EP.ret S keep hup z
    cases fl <;> exact y
/-- C(args), where __init__ may raise -/
theorem CallX.cls {c fI : Addr} {args : List V} {Q : V → Store → Prop} (hm : makesIn C.K c = true) (hi : findIn C.K (.ref c) "__init__" = some (some (.ref fI))) (hf : typeIn C.K (.ref fI) = some (.type "function")) (hfr : A.frames = some l)
    (h : ∀ a dx A', σ a = none → σ dx = none → a ≠ dx → A'.handled = A.handled → A'.depth = A.depth + 1 → A'.units ≤ A.units + 2 → A'.frames = some l → CodX C A' l D P (.ref fI) (.ref a :: args) ((σ.upd dx (.sd [])).upd a (.inst c dx)) (fun v σ' => v = .none ∧ Q (.ref a) σ')) :
    CallX C A l D P (.ref c) args σ Q := by
  intro s vs S r Fs
  obtain ⟨hh, g, d, t, os⟩ := s
  refine wpAny_call ?_
  obtain ⟨S2, e2⟩ := S.new (t := t) (x := emptyDict) (o := .sd []) ⟨[], Heap.DictOf.new _, .nil⟩
  have hsz := push_size hh emptyDict
  obtain ⟨S3, e3⟩ := S2.new (t := t) (x := instObj c hh.objs.size) (o := .inst c hh.objs.size) (Heap.get?_push_size _ rfl)
  dsimp only at S3 e3 hsz
  rw [hsz] at S3 e3
  have hne : hh.objs.size + 1 ≠ hh.objs.size := Nat.succ_ne_self _
  have hfs : σ (hh.objs.size + 1) = none := S.fresh' (Nat.le_succ _)
  refine make_core (makes_of S.K hm) (looks_findIn S.K hi) (fun self => bind_fn S.K self hf) (.inl rfl) ?_
  refine codeAny_mono (h (hh.objs.size + 1) hh.objs.size (A.under (.builtin "type.__call__" ⟨.ref c :: vs, []⟩)) hfs S.fresh hne rfl rfl (Nat.add_le_add_left (show (Code.builtin "type.__call__" ⟨.ref c :: vs, []⟩).cUnits ≤ 2 from Nat.le_of_ble_eq_true rfl) _) (by rw [← hfr]; rfl) _ (.ref (hh.objs.size + 1) :: vs) S3 (.cons (.ref _) (r.mono (e2.trans e3).tup)) ((Fs.evo e2).evo e3)) ?_
  rintro (e | f) s' z
  · exact z.after (e2.trans e3)
  · cases f <;> first | exact False.elim z | skip
    obtain ⟨x, σ', ⟨rfl, q⟩, rv, S', e'⟩ := z
    cases rv
    exact ⟨rfl, .ref _, σ', q, .ref _, S', (e2.trans e3).trans e'⟩
/-- try: body, except x as n: suite (which ends by return), rest -/
theorem ExsO.try {body : List Stmt} {tpos hpos np : Pos} {x n : Str} {b₀ : Stmt} {suite rest : List Stmt} {E : Addr} {Q : FV → Rho → Store → Prop}
    (hfr : A.frames = some (env :: l)) (hf : env.frame = some env.locals) (hlo : C.loose)
    (hb : ExsR C A env l D P body ρ σ (fun g ρ1 σ1 => match g with | .next => Exs C A env rest ρ1 σ1 Q (fun _ _ => False) | g => Q g ρ1 σ1))
    (hm : exmOne C.K (.ref D) (.ref E) = some true) (e : nsIn C.K mainGlobals x = some (some (.ref E))) (hx : env.kindOf x = some .globalImplicit) (hg : env.globals = mainGlobals) (hn : env.kindOf n = some .local)
    (hsuite : ∀ (e : Addr) (ρ1 : Rho) (σ1 : Store), P σ1 → σ1 e = none → Exs C (A.mark (some (.ref e))) env (b₀ :: suite) (ρ1.put n (.ref e)) (σ1.upd e (.exc D)) (fun g _ σ' => ∃ v, g = .ret v ∧ ∀ ρ', Q (.ret v) ρ' σ') (fun _ _ => False))
    (hd : (x == ("__debug__" : Str)) = false) (hc : env.cells = []) :
    ExsO C A env l (.Try body [.ExceptHandler (some (.Name x np)) (some n) (b₀ :: suite) hpos] [] [] tpos :: rest) ρ σ Q := by
  intro s S F O
  refine wpAny_execs_cons (wpAny_Try_except (wpAny_mono (hb s S F O) ?_ ?_))
  · rintro f s1 ⟨g, ρ1, σ1, h1, r1, S1, F1, e1⟩
    cases r1 with
    | next =>
      refine wpAny_execs_nil ?_
      exact wpAny_mono (h1 s1 S1 F1) (fun _ _ z => z.after e1) fun _ _ z => z
    | brk => exact ⟨_, _, _, h1, .brk, S1, F1, e1⟩
    | cont => exact ⟨_, _, _, h1, .cont, S1, F1, e1⟩
    | ret r => exact ⟨_, _, _, h1, .ret r, S1, F1, e1⟩
  · intro v s1 z
    refine z.note hfr hf fun h4 σ1 ρ1 h1 e B t fs e0 p S1 F1 O1 e1 H cov hnew up held4 => ?_
    subst e0
    refine wpAny_landsW held4 fun h5 fly5 up5 => ?_
    have U5 : h1.UpToSlots h5 := up.trans up5
    obtain ⟨S5, E5⟩ := settle S1 H cov fly5.1 U5 s1.toks
    obtain ⟨ob, hob, hobc⟩ := fly5.there
    refine wpAny_handleBy_cons (codeAny_handlers_test (Calls.Name_function_global F1.fn hx (Calls.loadGlobal_global (mg := C.mg) (by rw [hg]; exact C.hg.keeps S5.base) (mg_of C.KX C.hg ‹_›) ?_) hd)) (by intro q; cases q)
    have LT : Looks C.M h5 (typeOf (.ref e)) (.ref D) := hobc ▸ (Looks.ld hob).andThen .now
    refine (exm_one (M := C.M) (K := C.K) (h := h5) S5.K LT hm).here ?_
    refine codeAny_handlers_suite_as ?_
    refine lands_againW fly5 fun h6 fly6 up6 => ?_
    obtain ⟨S6, E6⟩ := settle S1 H cov fly6.1 (U5.trans up6) s1.toks
    obtain ⟨oe, ws, hoe, hoec, hoed, _⟩ := fly6.first
    have hC0 : C.h₀.get? e = none := by
      cases q : C.h₀.get? e with
      | none => rfl
      | some o => have := S1.base _ _ q; rw [hnew] at this; cases this
    have hs0 : σ1 e = none := by
      cases q : σ1 e with
      | none => rfl
      | some o =>
        obtain ⟨y, hy, _⟩ := (S1.rep _ _ q).isSome
        rw [hnew] at hy; cases hy
    obtain ⟨S7, E7⟩ := S6.adoptX (a := e) (o := .exc D) ⟨oe, ws, hoe, hoec, hoed⟩ hC0 hlo E6 hnew
    have F7 : Fm C (σ1.upd e (.exc D)) h6 env ρ1 := F1.evo E7
    obtain ⟨m, hm7, fm⟩ := F7.loc
    refine wpAny_storeName_local hn hm7 (fun h8 hn8 hs8 => ?_) (by rw [F.fn]; rfl)
    obtain ⟨S8, F8, E8⟩ := Fm.storeLocal (h := h6) (t := s1.toks + 1) (s := { s1 with heap := h6 }) S7 F7 hn hm7 fm hn8 hs8 (.ref e) (by rw [hc]; rfl)
    refine wpAny_mono (hsuite e ρ1 σ1 p hs0 _ S8 F8) ?_ fun _ _ z => z.elim
    rintro f s9 ⟨g, ρ9, σ9, ⟨v, rfl, q9⟩, r9, S9, F9, E9⟩
    obtain ⟨m9, hm9, fm9⟩ := F9.loc
    refine wpAny_nameGoes hn hm9 (by rw [F.fn]; rfl) fun h10 m10 hn10 hs10 => ?_
    cases r9 with
    | ret r9 =>
    obtain ⟨o9, es9, ep9, ho9, hd9, _⟩ := hm9
    have tk : TupKeep s9.heap h10 := fun a o i q => (hs10.2 a fun z => by subst z; rw [ho9] at q; cases q; exact Imm.notDict hd9 i).trans q
    have hne : ∀ b, b ≠ env.locals → h10.get? b = s9.heap.get? b := fun b q => hs10.2 b q
    have S10 : St C σ9 { s9 with heap := h10, toks := s9.toks + 1 } := by
      refine ⟨fun b o q => (hne b fun z => ?_).trans (S9.base b o q), fun a o q => (S9.rep a o q).at (fun y hy => (hne a fun z => ?_).trans hy) tk, S9.above, S9.gens, S9.os⟩
      · have := C.low b o q; rw [z] at this; exact absurd this (Nat.not_lt.mpr F9.abv)
      · subst z; rw [F9.locs] at q; cases q
    refine ⟨.ret v, [], σ9, q9 [], .ret (r9.mono tk), S10, ⟨F9.fn, ⟨m10, hn10, fun y u _ hu => (nomatch hu)⟩, F9.locs, F9.abv, fun y c hy => ?_, fun y c hy => ?_, F9.apart⟩, ?_⟩
    · rw [hc] at hy; cases hy
    · rw [hc] at hy; cases hy
    · have E10 : EvoF env σ9 s9.heap σ9 h10 := by
        refine ⟨fun b o q n w => .inl ((hne b fun z => w (.inl z)).trans q), fun b o q => .inl ⟨o, q⟩, fun b o q => ⟨o, q⟩, tk, fun b o q w => ?_⟩
        rcases w with rfl | ⟨y, w⟩
        · obtain ⟨o', _, _, ho', _⟩ := hn10
          exact ⟨o', ho'⟩
        · rw [hc] at w; cases w
      exact ((e1.trans (E7.evoF F1.own)).trans E8).trans (E9.trans E10)
end
end Mine

set_option autoImplicit false
set_option linter.unusedVariables false
set_option maxRecDepth 100000
namespace Mine
open PySem PySem.W PySem.SeqAt PyProof.Rows
section
variable {C : Cx} {A : Around} {env : Env} {ρ : Rho} {σ : Store} {X : XP} {s : Shared} {l : List Env} {D : Addr} {P : Store → Prop}
/-- a def that may raise -/
theorem CodX.defK {f : Addr} {name qual : Str} {params : Arguments} {body : List Stmt} {scope : Scope} {dV kV doc pm cdv ct oc : Value} {an od : Option Addr} {osl : Array (Option Value)} (names : List Str) {args : List V} {Q : V → Store → Prop}
    (ho : C.K.lookup f = some ⟨oc, od, .func (fnOf name qual params body scope dV kV doc pm an cdv ct), osl⟩) (hcd : codeIn C.K cdv qual = true) (hroom : A.depth < recursionLimit)
    (hbind : ∀ vals : List Value, vals.length = args.length → bindArgs (fnOf name qual params body scope dV kV doc pm an cdv ct) ⟨vals, []⟩ = pure (names.zip vals)) (nd : names.Nodup)
    (hkind : (names.all fun y => scope.names.lookup y == some .local) = true) (hsc : scopeOk scope = true) (hco : scope.isCoroutine = false) (hgen : scope.isGenerator = false) (hk : scope.kind = .function) (hfr : A.frames = some l)
    (h : ∀ L A', A'.handled = A.handled → A'.depth = A.depth + 1 → A'.units = A.units + 3 → A'.frames = some (mkE scope L (cellsFrom (L + 1) scope.names []) (qual ++ ".<locals>.") (some f) cdv (some L) :: l) →
      ExsR C A' (mkE scope L (cellsFrom (L + 1) scope.names []) (qual ++ ".<locals>.") (some f) cdv (some L)) l D P body (names.zip args) σ (fun g _ σ' => Q g.val σ')) : CodX C A l D P (.ref f) args σ Q :=
  CodX.fn (names := names) (C.KX _ _ ho) rfl C.lim (codeRec_of C.KX hcd) rfl hbind rfl nd (fun x hx => .inl (by simpa using List.all_eq_true.mp hkind x hx)) hroom hsc hco hgen hk hfr (fun L => h L _ rfl rfl rfl (Around.frames_deeper hfr))
/-- a def that looks at the frames -/
theorem CallF.defK {f : Addr} {name qual : Str} {params : Arguments} {body : List Stmt} {scope : Scope} {dV kV doc pm cdv ct oc : Value} {an od : Option Addr} {osl : Array (Option Value)} (names : List Str) {args : List V} {Q : V → Store → Prop}
    (ho : C.K.lookup f = some ⟨oc, od, .func (fnOf name qual params body scope dV kV doc pm an cdv ct), osl⟩) (hcd : codeIn C.K cdv qual = true) (hroom : A.depth < recursionLimit)
    (hbind : ∀ vals : List Value, vals.length = args.length → bindArgs (fnOf name qual params body scope dV kV doc pm an cdv ct) ⟨vals, []⟩ = pure (names.zip vals)) (nd : names.Nodup)
    (hkind : (names.all fun y => scope.names.lookup y == some .local) = true) (hsc : scopeOk scope = true) (hco : scope.isCoroutine = false) (hgen : scope.isGenerator = false) (hk : scope.kind = .function) (hfr : A.frames = some l)
    (h : ∀ L A', A'.handled = A.handled → A'.depth = A.depth + 1 → A'.units = A.units + 3 → A'.frames = some (mkE scope L (cellsFrom (L + 1) scope.names []) (qual ++ ".<locals>.") (some f) cdv (some L) :: l) →
      ExsO C A' (mkE scope L (cellsFrom (L + 1) scope.names []) (qual ++ ".<locals>.") (some f) cdv (some L)) l body (names.zip args) σ (fun g _ σ' => Q g.val σ')) : CallF C A l (.ref f) args σ Q X :=
  CallF.fnO (names := names) (C.KX _ _ ho) rfl C.lim (codeRec_of C.KX hcd) rfl hbind rfl nd (fun x hx => .inl (by simpa using List.all_eq_true.mp hkind x hx)) hroom hsc hco hgen hk hfr (fun L => h L _ rfl rfl rfl (Around.frames_deeper hfr))
/-- the law's def -/
theorem CallWP.def1O (x1 : Str) {f : Addr} {name qual : Str} {params : Arguments} {body : List Stmt} {scope : Scope} {dV kV doc pm cdv ct oc : Value} {an od : Option Addr} {osl : Array (Option Value)} {v1 : V} {Q : V → Store → Prop}
    (ho : C.K.lookup f = some ⟨oc, od, .func (fnOf name qual params body scope dV kV doc pm an cdv ct), osl⟩) (hcd : codeIn C.K cdv qual = true) (hroom : A.depth < recursionLimit)
    (hbind : ∀ u1 : Value, bindArgs (fnOf name qual params body scope dV kV doc pm an cdv ct) ⟨[u1], []⟩ = pure [(x1, u1)]) (nd : ([x1] : List Str).Nodup)
    (hkind : (([x1] : List Str).all fun y => scope.names.lookup y == some .local || scope.names.lookup y == some .cell) = true) (hsc : scopeOk scope = true) (hco : scope.isCoroutine = false) (hgen : scope.isGenerator = false) (hk : scope.kind = .function) (hfr : A.frames = some [])
    (h : ∀ L A', A'.handled = A.handled → A'.depth = A.depth + 1 → A'.units = A.units + 3 → A'.frames = some [mkE scope L (cellsFrom (L + 1) scope.names []) (qual ++ ".<locals>.") (some f) cdv (some L)] → Exs C A' (mkE scope L (cellsFrom (L + 1) scope.names []) (qual ++ ".<locals>.") (some f) cdv (some L)) body [(x1, v1)] σ (fun g _ σ' => Q g.val σ') (fun _ _ => False)) :
    CallWP C A (.ref f) [v1] σ Q X :=
  CallWP.def1F x1 ho hcd hroom hbind nd hkind hsc hco hgen hk fun L A' a1 a2 a3 a4 => h L A' a1 a2 a3 (by rw [a4, hfr]; rfl)
end
end Mine

set_option autoImplicit false
set_option linter.unusedVariables false
namespace Mine
open PySem PySem.W PySem.SeqAt PyProof.Rows
section
variable {C : Cx} {A : Around} {env : Env} {ρ : Rho} {σ : Store} {X : XP} {s : Shared}
def isStrB (x : Str) : Value → Bool
  | .str z _ => z == x
  | _ => false
end
end Mine

set_option autoImplicit false
set_option linter.unusedVariables false
namespace Mine
open PySem PySem.W PySem.SeqAt PyProof.Rows PySem.Calls
theorem str_eq_dict (b : Str) (u : Tok) (l : Addr) (c : Value) (es : Array DictEntry) (n : Nat) (dd : Option Addr) (sl : Array (Option Value)) :
    Meets (Builtin.«str.__eq__» ⟨[.str b u, .ref l], []⟩) (fun _ R s => s.heap.get? l = some { cls := c, dict := dd, data := .dict es n, slots := sl } ∧ R (.ok (.ret .notImplemented)) s) :=
  .of_wp fun prog w A R s h => by obtain ⟨hp, g, d, tk, os⟩ := s; obtain ⟨hl, h⟩ := h; wp_walk using wpAny_loadPart' hl, wpAny_load hl; exact ⟨_, rfl, h⟩
theorem dict_eq_str (b : Str) (u : Tok) (l : Addr) (es : Array DictEntry) (n : Nat) (dd : Option Addr) (sl : Array (Option Value)) :
    Meets (Builtin.«dict.__eq__» ⟨[.ref l, .str b u], []⟩) (fun _ R s => s.heap.get? l = some { cls := .type "dict", dict := dd, data := .dict es n, slots := sl } ∧ R (.ok (.ret .notImplemented)) s) :=
  .of_wp fun prog w A R s h => by obtain ⟨hp, g, d, tk, os⟩ := s; obtain ⟨hl, h⟩ := h; have f1 := F.sub_str_dict; wp_walk using wpAny_loadPart' hl, wpAny_load hl; exact ⟨_, rfl, h⟩
section
variable {A : Around} {s : Shared}
theorem eqAt_str_dict {l : Addr} {es : Array DictEntry} {n : Nat} {dd : Option Addr} {sl : Array (Option Value)} (b : Str) (u : Tok) (ho : s.heap.get? l = some { cls := .type "dict", dict := dd, data := .dict es n, slots := sl }) (hu : A.units < cLine) : EqAt A s (.str b u) (.ref l) false := fun prog w E Q h => by
  unfold eqBool
  refine wpAny_holding ?_
  refine wpAny_ite_split (fun hab => absurd (eq_of_beq hab) nofun) (fun _ => ?_)
  refine wpAny_bind ?_
  exact rc_eq_decline_or (k := false) (typeIs_str s b u) ⟨_, ho, rfl⟩ (by decide) F.sub_dict_str F.slot_str_eq F.slot_dict_eq_refl
    (fun _ hq => call_meets F.slot_str_eq (typeIs_str s b u) F.entry_str_eq (F.args_str_eq_2 _ _) (str_eq_dict b u l (.type "dict") es n dd sl) ⟨ho, hq⟩)
    (fun _ hq => call_meets F.slot_dict_eq_refl ⟨_, ho, rfl⟩ F.entry_dict_eq (F.args_dict_eq_2 _ _) (dict_eq_str b u l es n dd sl) ⟨ho, hq⟩)
    (fun _ hq => wpAny_of_eq (rfl : isSame (.str b u) (.ref l) = pure false) hq) (.inr hu) (wpAny_truthy_bool h)
end
section
variable {C : Cx} {A : Around} {σ : Store} {X : XP}
/-- how a text and a value compare -/
def EqS (C : Cx) (A : Around) (σ : Store) (n : Str) (x : V) (b : Bool) : Prop := ∀ s t u, St C σ s → VR s.heap u x → EqAt A.in1 s (.str n t) u b
theorem EqS.none {n : Str} : EqS C A σ n .none false := by
  intro s t u S r
  cases r
  exact EqAt.str_none n t
theorem EqS.int {n : Str} {i : Int} : EqS C A σ n (.int i) false := by
  intro s t u S r
  cases r
  exact EqAt.str_int n t _ _
theorem EqS.list {n : Str} {l : Addr} {xs : List V} (hu : A.units < 9000) (hl : σ l = some (.list xs)) : EqS C A σ n (.ref l) false := by
  intro s t u S r
  cases r
  obtain ⟨items, hI, _⟩ := (show LstAt C σ l xs from .inl hl).raw S
  exact EqAt.str_list n t hI (by show A.units + 1 < _; simp only [cLine]; (first | lia | omega))
theorem EqS.dict {n : Str} {l : Addr} {es : List (Str × V)} (hu : A.units < 9000) (hl : σ l = some (.sd es)) : EqS C A σ n (.ref l) false := by
  intro s t u S r
  cases r
  obtain ⟨kvs, ⟨⟨cls, dd, data, sl⟩, es', ep, ho, hx, hd, _⟩, _⟩ := S.rep _ _ hl
  have hc : cls = .type "dict" := hx.1
  simp only at hd
  subst hc hd
  exact eqAt_str_dict n t ho (by show A.units + 1 < _; simp only [cLine]; (first | lia | omega))
theorem EqS.tup {n : Str} {xs : List V} (hu : A.units < 9000) : EqS C A σ n (.tup xs) false := by
  intro s t u S r
  cases r with
  | tup e r =>
    exact EqAt.str_tuple n t ⟨_, e, rfl, _, rfl⟩ (by show A.units + 1 < _; simp only [cLine]; (first | lia | omega))
/-- what is no text does not stand among names -/
theorem CmpWP.notInOdd {l : Addr} {ns : List Str} {x : V} {Q : V → Store → Prop} (hl : σ l = some (.list (ns.map V.str))) (he : ∀ n, EqS C A σ n x false) (h : Q (.bool true) σ) : CmpWP C A .NotIn x (.ref l) σ Q X := by
  intro s a b S ra rb
  obtain rfl := rb.refI
  obtain ⟨items, hI, rl⟩ := (show LstAt C σ l (ns.map V.str) from .inl hl).raw S
  refine notIn_listAt (fun _ => false) hI (fun y hy => ?_) ?_
  · obtain ⟨m, hm, rfl⟩ := Array.mem_iff_getElem.mp hy
    have el := rl.length
    simp only [Array.length_toList, List.length_map] at el
    obtain ⟨u, hu', ru⟩ := rl.get (show (ns.map V.str)[m]? = some (V.str (ns[m]'(by (first | lia | omega)))) by rw [List.getElem?_map, List.getElem?_eq_getElem (by (first | lia | omega))]; rfl)
    have : items[m] = u := by
      have : items.toList[m]? = some items[m] := by simp [hm]
      rw [this] at hu'; exact Option.some.inj hu'
    rw [this]
    cases ru
    exact he _ s _ _ S ra
  · have e2 : (!items.any fun _ => false) = true := by simp
    first
      | exact EP.pure S h (.bool _)
      | (rw [e2]; exact EP.pure S h (.bool _))
      | (simp; exact EP.pure S h (.bool _))
/-- a value equals itself -/
def EqI (C : Cx) (A : Around) (σ : Store) (x : V) : Prop := ∀ s v u, St C σ s → VR s.heap v x → VR s.heap u x → EqAt A.in1 s v u true
theorem EqI.ref {l : Addr} : EqI C A σ (.ref l) := by
  intro s v u S r1 r2
  cases r1; cases r2
  exact EqAt.same _
theorem EqI.dr {x : V} {d : PyData} (hx : DR C σ x d) (h1 : d.canLay0 = true) (hu : A.units + d.depth < 9000) : EqI C A σ x := by
  intro s v u S r1 r2
  obtain ⟨as, q1⟩ := hx.reads S r1
  obtain ⟨bs, q2⟩ := hx.reads S r2
  intro prog w E Q hq
  refine eqBoolOverData prog w _ E s _ _ _ _ _ _ Q q1 q2 h1 h1 ?_ ?_
  · show A.units + 1 + _ < _
    simp only [cLine]; (first | lia | omega)
  · rw [eqv_refl d h1]; exact hq
/-- two lists of the same values -/
theorem CmpWP.eqSelf {l m : Addr} {xs : List V} {Q : V → Store → Prop} (h1 : σ l = some (.list xs)) (h2 : σ m = some (.list xs)) (he : ∀ x ∈ xs, EqI C A σ x) (hu : A.units < 9000) (h : Q (.bool true) σ) : CmpWP C A .Eq (.ref l) (.ref m) σ Q X := by
  intro s a b S ra rb
  obtain rfl := ra.refI
  obtain rfl := rb.refI
  obtain ⟨items, hI, rl⟩ := (show LstAt C σ l xs from .inl h1).raw S
  obtain ⟨items2, hI2, rl2⟩ := (show LstAt C σ m xs from .inl h2).raw S
  have el := rl.length
  have el2 := rl2.length
  simp only [Array.length_toList] at el el2
  refine eq_listAt (e := fun _ => true) hI hI2 (by (first | lia | omega)) (by simp only [cLine]; (first | lia | omega)) (fun j j1 j2 => ?_) ?_
  · have hj : xs[j]? = some (xs[j]'(by (first | lia | omega))) := List.getElem?_eq_getElem (by (first | lia | omega))
    obtain ⟨u, hu1, ru⟩ := rl.get hj
    obtain ⟨v, hv1, rv⟩ := rl2.get hj
    have e1 : items[j] = u := by
      have : items.toList[j]? = some items[j] := by simp [j1]
      rw [this] at hu1; exact Option.some.inj hu1
    have e2 : items2[j] = v := by
      have : items2.toList[j]? = some items2[j] := by simp [j2]
      rw [this] at hv1; exact Option.some.inj hv1
    rw [e1, e2]
    exact he _ (List.getElem_mem (by (first | lia | omega))) s _ _ S ru rv
  · have e3 : ((List.range items.size).all (fun _ => true)) = true := by simp
    rw [e3]
    exact EP.pure S h (.bool _)
end
end Mine

set_option autoImplicit false
set_option linter.unusedVariables false
namespace Mine
open PySem PySem.W PySem.SeqAt PyProof.Rows PySem.Calls
section
variable {C : Cx} {A : Around} {env : Env} {ρ : Rho} {σ : Store} {X : XP} {s : Shared}
theorem VRs.set {h : Heap} {u : Value} {y : V} (a : VR h u y) {vs : List Value} {xs : List V} (r : VRs h vs xs) : ∀ k : Nat, VRs h (vs.set k u) (xs.set k y) := by
  refine r.ind (P := fun vs xs => ∀ k : Nat, VRs h (vs.set k u) (xs.set k y)) (fun _ => .nil) fun b bs ih k => ?_
  cases k with
  | zero => exact .cons a bs
  | succ k => exact .cons b (ih k)
/-- l[k] = y -/
theorem SetWP.list {l : Addr} {xs : List V} {k : Int} {y : V} {Q : Store → Prop} (hl : σ l = some (.list xs)) (h0 : 0 ≤ k) (hk : k < (xs.length : Int)) (hz : xs.length ≤ 9000) (h : Q (σ.upd l (.list (xs.set k.toNat y)))) : SetWP C A (.ref l) (.int k) y σ Q X := by
  intro s a b v S ra rb rv
  obtain rfl := ra.refI
  obtain ⟨t, rfl⟩ := rb.intI
  obtain ⟨items, ⟨n, e⟩, rl⟩ := S.rep _ _ hl
  have el := rl.length
  simp only [Array.length_toList] at el
  have hl' : s.heap.IsList l items := ⟨_, e, rfl, n, rfl⟩
  unfold setItem
  try with_reducible refine wpAny_holding ?_
  first | refine wpAny_bind (wpAny_pure ?_) | skip
  refine wpAny_bind (wpAny_sequenceKey hl'.typeIs (by decide) ?_)
  refine wpAny_bind (wpAny_callSpecial?_slot (name := Str.ofString "__setitem__") hl'.typeIs slot_list_setitem
    (wpAny_call_entry slot_list_setitem hl'.typeIs entry_list_setitem ?_ (args_list_setitem _ _ _)))
  show wpAny _ _ (Builtin.List.listSubscript? (.int k t) >>= _) _ _ s
  refine wpAny_bind (wpAny_listSubscript_int (fitsIndex_of h0 (by (first | lia | omega))) ?_)
  obtain ⟨j, rfl⟩ := Int.eq_ofNat_of_zero_le h0
  have hj : j < items.size := by (first | lia | omega)
  have hx' : items[j]? = some items[j] := Array.getElem?_eq_getElem hj
  show wpAny _ _ ((seqItemAt l j >>= fun r => pure (r.map (j, ·))) >>= _) _ _ s
  refine wpAny_bind (wpAny_bind (wpAny_seqItemAt e rfl (wpAny_pure ?_)))
  rw [hx']
  show wpAny _ _ (setSeqItemAt l j v >>= _) _ _ s
  refine wpAny_bind (wpAny_setSeqItemAt e rfl ?_)
  obtain ⟨S2, e2⟩ := upd_list (ys := xs.set j y) (f := fun a => a.setIfInBounds j v) S hl e (by
    rw [Array.toList_setIfInBounds]; exact rl.set rv j)
  first
    | exact wpAny_bind (wpAny_pure (wpAny_pure ⟨.none, rfl, wpAny_pure ⟨_, h, S2, e2⟩⟩))
    | exact wpAny_pure ⟨.none, rfl, wpAny_pure ⟨_, h, S2, e2⟩⟩
theorem CmpWP.ne_bool {a b : Bool} {Q : V → Store → Prop} (hu : A.units < 9000) (h : Q (.bool (a != b)) σ) : CmpWP C A .NotEq (.bool a) (.bool b) σ Q X := by
  have e : (a != b) = !PyData.eqv (.bool a) (.bool b) := by cases a <;> cases b <;> rfl
  refine CmpWP.ne (.bool a) (.bool b) rfl rfl (by simp only [PyData.depth, cLine]; (first | lia | omega)) ?_
  rw [← e]; exact h
/-- isinstance(x, (list, tuple)) of a text or None -/
theorem CallWP.isiLTf {x : V} {t : Ty} {Q : V → Store → Prop} (ht : HasTy C σ x t) (h2 : t = .str ∨ t = .none) (h : Q (.bool false) σ) : CallWP C A (.builtin "isinstance") [x, .tup [.typ "list", .typ "tuple"]] σ Q X := by
  intro s vs S r
  obtain ⟨_, _, rfl, r1, r2⟩ := r.two
  have b := ht.bears S r1
  obtain ⟨tp, ⟨it⟩, n, rfl, hg, hr⟩ := r2.tupI
  obtain ⟨_, _, hi, q1, q2⟩ := hr.two
  simp only at hi
  subst hi
  obtain rfl := q1.typI
  obtain rfl := q2.typI
  rcases h2 with rfl | rfl
  · obtain ⟨z, u, rfl⟩ := b
    exact call_isinstance (isi_tup (Tx := "str") (n := n) (cs := [.type "list", .type "tuple"]) (vs := [false, false]) (.cons (.of_false_str (by decide +kernel) F.isi_meta_list F.sub_str_list) (.cons (.of_false_str (by decide +kernel) F.isi_meta_tuple F.sub_str_tuple) .nil))) ⟨typeIs_str s z u, hg, fun tk => EP.pureT S h (.bool _)⟩
  · obtain rfl := b
    exact call_isinstance (isi_tup (Tx := "NoneType") (n := n) (cs := [.type "list", .type "tuple"]) (vs := [false, false]) (.cons (.of_false_none (by decide +kernel) F.isi_meta_list F.sub_NoneType_list) (.cons (.of_false_none (by decide +kernel) F.isi_meta_tuple F.sub_NoneType_tuple) .nil))) ⟨rfl, hg, fun tk => EP.pureT S h (.bool _)⟩
/-- tuple + tuple -/
theorem BinWP.catT {xs ys : List V} {Q : V → Store → Prop} (hz : xs.length + ys.length ≤ 9000) (h : Q (.tup (xs ++ ys)) σ) : BinWP C A .Add (.tup xs) (.tup ys) σ Q X := by
  intro s a b S ra rb
  obtain ⟨t, ⟨vs⟩, n, rfl, ho, hr⟩ := ra.tupI
  obtain ⟨u, ⟨ws⟩, n2, rfl, ho2, hr2⟩ := rb.tupI
  have e1 := hr.length
  have e2 := hr2.length
  simp only at e1 e2 hr hr2
  by_cases hv : vs = []
  · subst hv
    obtain rfl : xs = [] := List.length_eq_zero_iff.mp (by simpa using e1.symm)
    exact concat_meets ⟨_, ho, rfl⟩ ⟨_, ho2, rfl⟩ noFill_tuple_add seq_tuple_add PySem.F.slot_tuple_add PySem.F.entry_tuple_add (PySem.F.args_tuple_add_2 _ _)
      (tuple_addW0 t u _ _ n n2 _ _ _ _ (by simp)) ⟨ho, ho2, EP.pure S h (.tup ho2 hr2)⟩
  · by_cases hw : ws = []
    · subst hw
      obtain rfl : ys = [] := List.length_eq_zero_iff.mp (by simpa using e2.symm)
      rw [List.append_nil] at h
      exact concat_meets ⟨_, ho, rfl⟩ ⟨_, ho2, rfl⟩ noFill_tuple_add seq_tuple_add PySem.F.slot_tuple_add PySem.F.entry_tuple_add (PySem.F.args_tuple_add_2 _ _)
        (tuple_addW1 t u _ _ n n2 _ _ _ _ (by simpa using hv) (by simp)) ⟨ho, ho2, EP.pure S h (.tup ho hr)⟩
    · refine concat_meets ⟨_, ho, rfl⟩ ⟨_, ho2, rfl⟩ noFill_tuple_add seq_tuple_add PySem.F.slot_tuple_add PySem.F.entry_tuple_add (PySem.F.args_tuple_add_2 _ _)
        (tuple_addW2 t u _ _ n n2 _ _ _ _ (by simpa using hv) (by simpa using hw) (by simp [sizeLine_eq]; (first | lia | omega))) ⟨ho, ho2, ?_⟩
      have k : ∀ b o, s.heap.get? b = some o → (s.heap.push { cls := .type "tuple", data := .seq (vs.toArray ++ ws.toArray) 0 }).get? b = some o := fun b o e => Heap.get?_push_of_some _ e
      have tk : TupKeep s.heap (s.heap.push { cls := .type "tuple", data := .seq (vs.toArray ++ ws.toArray) 0 }) := fun a o _ e => k a o e
      refine ⟨_, σ, h, .tup (items := vs.toArray ++ ws.toArray) (n := 0) (Heap.get?_push_size _ rfl) ?_, S.push, .push⟩
      rw [Array.toList_append]
      exact (hr.mono tk).append (hr2.mono tk)
/-- two tuples of the same values -/
theorem EqI.tup {xs : List V} (hu : A.units < 8000) (he : ∀ x ∈ xs, EqI C A.in1 σ x) : EqI C A σ (.tup xs) := by
  intro s v u S r1 r2
  obtain ⟨a, items, n, rfl, ho, hr⟩ := r1.tupI
  obtain ⟨b, items2, n2, rfl, ho2, hr2⟩ := r2.tupI
  by_cases q : a = b
  · subst q; exact EqAt.same _
  have el := hr.length
  have el2 := hr2.length
  simp only [Array.length_toList] at el el2
  have key := RcAt.tuples (A := A.in1) (e := fun _ => true) (s := s) (l := a) (b := b) ⟨_, ho, rfl, n, rfl⟩ ⟨_, ho2, rfl, n2, rfl⟩ (by show A.units + 1 < _; simp only [cLine]; (first | lia | omega)) fun j j1 j2 => ?_
  · have e3 : ((List.range (min items.size items2.size)).all (fun _ => true) && items.size == items2.size) = true := by
      have : items.size = items2.size := by (first | lia | omega)
      simp [this]
    rw [e3] at key
    exact EqAt.of_refs q key
  · have hj : xs[j]? = some (xs[j]'(by (first | lia | omega))) := List.getElem?_eq_getElem (by (first | lia | omega))
    obtain ⟨u, hu1, ru⟩ := hr.get hj
    obtain ⟨v, hv1, rv⟩ := hr2.get hj
    have e1 : items[j] = u := by
      have : items.toList[j]? = some items[j] := by simp [j1]
      rw [this] at hu1; exact Option.some.inj hu1
    have e2 : items2[j] = v := by
      have : items2.toList[j]? = some items2[j] := by simp [j2]
      rw [this] at hv1; exact Option.some.inj hv1
    rw [e1, e2]
    exact he _ (List.getElem_mem (by (first | lia | omega))) s _ _ S ru rv
end
end Mine

set_option autoImplicit false
set_option linter.unusedVariables false
namespace Mine
open PySem PySem.W PySem.SeqAt PyProof.Rows PySem.Calls
section
variable {prog : Program} {w : World} {A : Around} {E : Value → Shared → Prop} {s : Shared}
theorem sliceApplied_upto {sl : Addr} {k : Int} {j n : Nat} {u : Tok} {Q : Int × Int × Nat → Shared → Prop} (hs : s.heap.IsSliceOf sl .none (.int k u) .none) (hj : Builtin.Slice.sliceAdjust none (some k) 1 (n : Int) = (0, (j : Int))) (h : Q (0, 1, j) s) :
    wpAny (model prog w) A (Builtin.Slice.sliceApplied (.ref sl) (pure (n : Int))) Q E s := by
  obtain ⟨os, hos, hcs, hds⟩ := id hs
  unfold Builtin.Slice.sliceApplied Builtin.Slice.sliceFields
  refine wpAny_bind (wpAny_bind (wpAny_field hos hds (x := .none) rfl (wpAny_bind (wpAny_field hos hds (x := .int k u) rfl (wpAny_bind (wpAny_field hos hds (x := .none) rfl (wpAny_pure ?_)))))))
  refine wpAny_bind (slicePart_none ?_)
  show wpAny _ _ (if ((1 : Int) == 0) = true then _ else _) _ _ s
  rw [if_neg (by decide)]
  refine wpAny_bind (slicePart_none (wpAny_bind (slicePart_int (wpAny_bind (wpAny_pure ?_)))))
  show wpAny _ _ (match Builtin.Slice.sliceAdjust none (some k) 1 (n : Int) with | (lo, hi) => pure (lo, (1 : Int), Builtin.Slice.slicePlaces lo hi 1)) _ _ s
  rw [hj]
  show wpAny _ _ (pure ((0 : Int), (1 : Int), Builtin.Slice.slicePlaces 0 (j : Int) 1)) _ _ s
  have e : Builtin.Slice.slicePlaces 0 (j : Int) 1 = j := by
    unfold Builtin.Slice.slicePlaces
    have h1 : (1 : Int) > 0 := by (first | lia | omega)
    simp only [h1, if_true, Int.ediv_one]
    split <;> (first | lia | omega)
  rw [e]
  exact wpAny_pure h
theorem pick_upto (xs : Array Value) (j : Nat) (hj : j ≤ xs.size) : ((List.range j).filterMap fun (k : Nat) => xs[((0 : Int) + (k : Int) * 1).toNat]?).toArray = (xs.toList.take j).toArray := by
  have e : (fun (k : Nat) => xs[((0 : Int) + (k : Int) * 1).toNat]?) = fun k => xs[0 + k]? := by
    funext k
    have : ((0 : Int) + (k : Int) * 1).toNat = 0 + k := by (first | lia | omega)
    rw [this]
  rw [e]
  have := pick_run xs 0 j
  rw [List.filterMap_map] at this
  have e2 : ((fun x => xs[x]?) ∘ fun x => 0 + x) = fun k => xs[0 + k]? := rfl
  rw [e2] at this
  rw [this, List.drop_zero]
theorem getItem_tuple_upto {t sl : Addr} {items : Array Value} {k : Int} {j : Nat} {u : Tok} {Q : Value → Shared → Prop} (ht : IsTup s.heap t items) (hs : s.heap.IsSliceOf sl .none (.int k u) .none) (hj : Builtin.Slice.sliceAdjust none (some k) 1 (items.size : Int) = (0, (j : Int))) (hjn : j < items.size)
    (h : Q (.ref s.heap.objs.size) { s with heap := s.heap.push { cls := .type "tuple", data := .seq (items.toList.take j).toArray } })
    (hsz : items.size ≤ sizeLine) : wpAny (model prog w) A (getItem (.ref t) (.ref sl)) Q E s := by
  have hdrop : sizeOk (.seq (items.toList.take j).toArray) := by
    show (items.toList.take j).toArray.size ≤ sizeLine
    rw [List.size_toArray, List.length_take, Array.length_toList]
    (first | lia | omega)
  obtain ⟨os, hos, hcs, hds⟩ := id hs
  have hTs : s.TypeIs (.ref sl) "slice" := ⟨os, hos, hcs⟩
  unfold getItem
  try with_reducible refine wpAny_holding ?_
  first | refine wpAny_bind (wpAny_pure ?_) | skip
  refine wpAny_bind (wpAny_sequenceKey ht.typeIs (by decide) ?_)
  refine wpAny_bind (wpAny_callSpecial?_slot (name := Str.ofString "__getitem__") ht.typeIs slot_tuple_getitem
    (wpAny_call_entry slot_tuple_getitem ht.typeIs entry_tuple_getitem ?_ (args_tuple_getitem _ _)))
  show wpAny _ _ (Builtin.Tuple.tupleItemsOf (.ref t) >>= _) _ _ s
  refine wpAny_bind (tupleItemsOf_ ht ?_)
  refine wpAny_bind (wpAny_typeOf hTs ?_)
  rw [if_pos (by decide)]
  refine wpAny_bind (sliceApplied_upto hs hj ?_)
  have hno : ¬ (((0 : Int) == 0 && (1 : Int) == 1 && j == items.size) = true) := by
    have : (j == items.size) = false := by rw [beq_eq_false_iff_ne]; (first | lia | omega)
    rw [this]; simp
  show wpAny _ _ (if ((0 : Int) == 0 && (1 : Int) == 1 && j == items.size) = true then _ else _) _ _ s
  rw [if_neg hno, pick_upto items j (by (first | lia | omega))]
  first
    | exact wpAny_bind (m := Builtin.Tuple.tupleExact _) (wpAny_newObj_type (wpAny_pure ⟨_, rfl, wpAny_pure h⟩) hdrop)
    | exact wpAny_bind (m := Builtin.Tuple.tupleExact _) (wpAny_newObj_type (wpAny_bind (wpAny_pure (wpAny_pure ⟨_, rfl, wpAny_pure h⟩))) hdrop)
    | exact wpAny_bind (wpAny_bind (m := Builtin.Tuple.tupleExact _) (wpAny_newObj_type (wpAny_pure (wpAny_pure ⟨_, rfl, wpAny_pure h⟩)) hdrop))
    | exact wpAny_bind (wpAny_bind (m := Builtin.Tuple.tupleExact _) (wpAny_newObj_type (wpAny_pure ⟨_, rfl, wpAny_pure h⟩) hdrop))
end
section
variable {C : Cx} {A : Around} {env : Env} {ρ : Rho} {σ : Store} {X : XP} {s : Shared}
/-- where t[:k] ends -/
def uptoT (k : Int) (n : Nat) : Nat := (if k < 0 then k + n else k).toNat
/-- t[:k], short of the whole -/
theorem Ev.sliceT {value hi : Expr} {p pos : Pos} {Q : V → Store → Prop}
    (h : Ev C A env value ρ σ (fun o σ1 => Prt C A env (some hi) ρ σ1 (fun b σ2 => ∃ xs k, o = .tup xs ∧ b = some k ∧ 0 ≤ (if k < 0 then k + xs.length else k) ∧ (if k < 0 then k + xs.length else k) < (xs.length : Int) ∧ xs.length ≤ 9000 ∧ Q (.tup (xs.take (uptoT k xs.length))) σ2) X) X) : Ev C A env (.Subscript value (.Slice none (some hi) Option.none p) pos) ρ σ Q X := by
  intro s S F
  rw [eval_Subscript]
  refine wpAny_bind (wpAny_mono (h s S F) ?_ fun _ _ z => z)
  rintro o s1 ⟨x, σ1, h1, r1, S1, e1⟩
  refine wpAny_bind (wpAny_holding ?_)
  rw [arm_eval_Slice]
  refine wpAny_bind (wpAny_pure ?_)
  refine wpAny_bind (wpAny_holding (wpAny_mono (h1.run S1 (F.evo e1)) ?_ fun _ _ z => z))
  rintro vu s3 ⟨b, σ3, ⟨xs, k, rfl, rfl, q0, q1, hz, q⟩, p3, S3, e3⟩
  obtain ⟨t, items, n, rfl, ho, hr⟩ := (r1.mono e3.tup).tupI
  have el := hr.length
  simp only [Array.length_toList] at el
  refine wpAny_bind (wpAny_holding (wpAny_pure (wpAny_newObj_type ?_)))
  obtain ⟨u, rfl⟩ : ∃ u, vu = .int k u := by cases p3; exact ⟨_, rfl⟩
  have S4 : St C σ3 { s3 with heap := s3.heap.push { cls := .type "slice", data := .fields #[.none, .int k u, .none] } } := S3.push
  have ht : IsTup (s3.heap.push { cls := .type "slice", data := .fields #[.none, .int k u, .none] }) t items := ⟨_, Heap.get?_push_of_some _ ho, rfl, n, rfl⟩
  have hadj : Builtin.Slice.sliceAdjust none (some k) 1 (items.size : Int) = (0, (uptoT k xs.length : Int)) := by
    unfold Builtin.Slice.sliceAdjust uptoT
    have h1 : ¬ ((1 : Int) < 0) := by (first | lia | omega)
    simp only [h1, if_false]
    rw [el]
    congr 1
    split at q0 <;> split at q1 <;> (try (first | lia | omega)) <;> (split <;> (first | lia | omega))
  refine wpAny_bind (wpAny_standAt (getitem_mine ⟨_, _, ht.typeIs, slot_tuple_getitem.lookup⟩ (getItem_tuple_upto ht ⟨_, Heap.get?_push_size _ rfl, rfl, rfl⟩ hadj (by unfold uptoT; rw [el]; (first | lia | omega)) ?_ (by rw [el, sizeLine_eq]; (first | lia | omega)))))
  have kk : ∀ b o, (s3.heap.push { cls := .type "slice", data := .fields #[.none, .int k u, .none] }).get? b = some o → ((s3.heap.push { cls := .type "slice", data := .fields #[.none, .int k u, .none] }).push { cls := .type "tuple", data := .seq (items.toList.take (uptoT k xs.length)).toArray }).get? b = some o := fun b o e => Heap.get?_push_of_some _ e
  refine ⟨_, σ3, q, .tup (items := (items.toList.take (uptoT k xs.length)).toArray) (n := 0) (Heap.get?_push_size _ rfl) ?_, S4.push, ((e1.trans e3).trans .push).trans .push⟩
  simp only
  exact ((hr.mono (fun a o _ e => Heap.get?_push_of_some _ e)).mono (fun a o _ e => kk a o e)).take _
end
end Mine

set_option autoImplicit false
set_option linter.unusedVariables false
set_option maxRecDepth 100000
namespace Mine
open PySem PySem.W PySem.SeqAt PyProof.Rows
/-- expressions and tests that look at the frames and raise nothing -/
def EvO (C : Cx) (A : Around) (env : Env) (l : List Env) (e : Expr) (ρ : Rho) (σ : Store) (Q : V → Store → Prop) : Prop :=
  ∀ s, St C σ s → Fm C σ s.heap env ρ → FrO C σ s.heap env l → wpAny C.M A (eval e env) (EP C σ s.heap Q) (fun _ _ => False) s
def TstO (C : Cx) (A : Around) (env : Env) (l : List Env) (e : Expr) (ρ : Rho) (σ : Store) (Q : Bool → Store → Prop) : Prop :=
  ∀ s, St C σ s → Fm C σ s.heap env ρ → FrO C σ s.heap env l → wpAny C.M A (isTrue e env (eval e env)) (TP C σ s.heap Q) (fun _ _ => False) s
def ThenO (C : Cx) (A : Around) (env : Env) (l : List Env) (ss : List Stmt) (Q : FV → Rho → Store → Prop) (g : FV) (ρ : Rho) (σ : Store) : Prop :=
  match g with
  | .next => ExsO C A env l ss ρ σ Q
  | g => Q g ρ σ
section
variable {C : Cx} {A : Around} {env : Env} {ρ : Rho} {σ : Store} {s : Shared} {l : List Env}
theorem EvO.call {func : Expr} {args : List Expr} {pos : Pos} {Q : V → Store → Prop} (hf : env.frame = some env.locals)
    (h : Ev C A env func ρ σ (fun fx σ1 => ∃ f, fx = .ref f ∧ keepIn C.K (.ref f) = true ∧ Ags C A env pos args ρ σ1 (fun xs σ2 => CallF C A (env :: l) (.ref f) xs σ2 Q (fun _ _ => False)) (fun _ _ => False)) (fun _ _ => False))
    (hev : eval (.Call func args [] pos) env = (do callWith pos (← eval func env) [] (backTo pos (starEach args env)) (backToKw pos (keywordEach [] env))) := by kernel_rfl)
    (he : (backTo pos (starEach args env)).any (·.1) = false := by kernel_rfl) : EvO C A env l (.Call func args [] pos) ρ σ Q := by
  intro s S F O
  rw [hev]
  refine wpAny_bind (wpAny_mono (h s S F) ?_ fun _ _ z => z.elim)
  rintro v s1 ⟨x, σ1, ⟨f, rfl, kp, q⟩, r1, S1, e1⟩
  obtain rfl := r1.refI
  refine callWith_of (first := []) (P := fun h => ∀ b o, C.h₀.get? b = some o → h.get? b = some o) (by rw [he]; rfl) (Kp.ref kp) ?_
  refine evalArgs_sp he (wpAny_mono (q s1 S1 (F.evo e1)) ?_ fun _ _ z => z.elim)
  rintro vs s2 ⟨xs, σ2, q2, r2, S2, e2⟩
  have E2 := e1.trans e2
  exact ⟨S2.base, wpAny_mono (q2 s2 _ S2 r2 ((F.evo E2).frsO hf (O.evoF (E2.evoF F.own)))) (fun _ _ z => (z.after e2).after e1) fun _ _ z => z.elim⟩
theorem TstO.cmp {a b : Expr} {op : CmpOp} {pos : Pos} {Q : Bool → Store → Prop}
    (h : EvO C A env l a ρ σ (fun x σ1 => Ev C A env b ρ σ1 (fun y σ2 => CmpWP C A op x y σ2 (fun c σ3 => TruWP C A c σ3 Q (fun _ _ => False)) (fun _ _ => False)) (fun _ _ => False))) (hm : behindInMarks op b = false := by kernel_rfl) :
    TstO C A env l (.Compare a [op] [b] pos) ρ σ Q := by
  intro s S F O
  refine wpAny_isTrue_Compare1 (wpAny_mono (h s S F O) ?_ fun _ _ z => z) hm
  rintro a s1 ⟨x, σ1, h1, r1, S1, e1⟩
  refine wpAny_mono (h1 s1 S1 (F.evo e1)) ?_ fun _ _ z => z
  rintro b s2 ⟨y, σ2, h2, r2, S2, e2⟩
  refine wpAny_mono (h2 s2 a b S2 (r1.mono e2.tup) r2) ?_ fun _ _ z => z
  rintro c s3 ⟨z, σ3, h3, r3, S3, e3⟩
  exact wpAny_mono (h3 s3 c S3 r3) (fun _ _ z => TP.after z ((e1.trans e2).trans e3)) fun _ _ z => z
/-- a or b, where b looks at the frames -/
theorem TstO.or2 {a b : Expr} {pos : Pos} {Q : Bool → Store → Prop} (h : Tst C A env a ρ σ (fun x σ1 => if x then Q true σ1 else TstO C A env l b ρ σ1 Q) (fun _ _ => False)) : TstO C A env l (.BoolOp .Or [a, b] pos) ρ σ Q := by
  intro s S F O
  refine wpAny_isTrue_BoolOp (wpAny_allTrue_Or_cons (wpAny_mono (h s S F) ?_ fun _ _ z => z))
  rintro x s1 ⟨σ1, h1, S1, e1⟩
  cases x with
  | true => exact ⟨σ1, h1, S1, e1⟩
  | false =>
    refine wpAny_allTrue_Or_cons (wpAny_mono (h1 s1 S1 (F.evo e1) (O.evoF (e1.evoF F.own))) ?_ fun _ _ z => z)
    rintro y s2 ⟨σ2, h2, S2, e2⟩
    cases y with
    | true => exact ⟨σ2, h2, S2, e1.trans e2⟩
    | false => exact wpAny_allTrue_Or_nil ⟨σ2, h2, S2, e1.trans e2⟩
theorem ExsO.of {ss : List Stmt} {Q : FV → Rho → Store → Prop} (h : Exs C A env ss ρ σ Q (fun _ _ => False)) : ExsO C A env l ss ρ σ Q := fun s S F _ => h s S F
theorem ExsO.consE {st : Stmt} {ss : List Stmt} {Q : FV → Rho → Store → Prop} (h : ∀ s, St C σ s → Fm C σ s.heap env ρ → FrO C σ s.heap env l → wpAny C.M A (exec st env) (SP C env σ s.heap (ThenO C A env l ss Q)) (fun _ _ => False) s) : ExsO C A env l (st :: ss) ρ σ Q := by
  intro s S F O
  refine wpAny_execs_cons (wpAny_mono (h s S F O) ?_ fun _ _ z => z)
  rintro f s1 ⟨g, ρ1, σ1, h1, r1, S1, F1, e1⟩
  cases r1 with
  | next => exact wpAny_mono (h1 s1 S1 F1 (O.evoF e1)) (fun _ _ z => z.after e1) fun _ _ z => z
  | brk => exact ⟨_, _, _, h1, .brk, S1, F1, e1⟩
  | cont => exact ⟨_, _, _, h1, .cont, S1, F1, e1⟩
  | ret r => exact ⟨_, _, _, h1, .ret r, S1, F1, e1⟩
theorem ExsO.step {st : Stmt} {ss : List Stmt} {Q : FV → Rho → Store → Prop} (I : Rho → Store → Prop) (h1 : Ex C A env st ρ σ (fun g ρ' σ' => g = .next ∧ I ρ' σ') (fun _ _ => False)) (h2 : ∀ ρ' σ', I ρ' σ' → ExsO C A env l ss ρ' σ' Q) : ExsO C A env l (st :: ss) ρ σ Q :=
  ExsO.consE fun s S F _ => (h1.mono fun g ρ' σ' ⟨e, p⟩ => by subst e; exact h2 ρ' σ' p) s S F
theorem ExsO.ite {t : Expr} {b1 b2 ss : List Stmt} {pos : Pos} {Q : FV → Rho → Store → Prop} (h : TstO C A env l t ρ σ (fun b σ1 => if b then Exs C A env b1 ρ σ1 (ThenO C A env l ss Q) (fun _ _ => False) else Exs C A env b2 ρ σ1 (ThenO C A env l ss Q) (fun _ _ => False))) : ExsO C A env l (.If t b1 b2 pos :: ss) ρ σ Q := by
  refine ExsO.consE fun s S F O => ?_
  refine wpAny_If (wpAny_mono (h s S F O) ?_ fun _ _ z => z)
  rintro b s1 ⟨σ1, h1, S1, e1⟩
  have e2 := e1.evoF F.own
  cases b
  · exact wpAny_mono (h1 s1 S1 (F.evo e1)) (fun _ _ z => z.after e2) fun _ _ z => z
  · exact wpAny_mono (h1 s1 S1 (F.evo e1)) (fun _ _ z => z.after e2) fun _ _ z => z
end
end Mine

set_option autoImplicit false
set_option linter.unusedVariables false
namespace Mine
open PySem PySem.W PySem.SeqAt PyProof.Rows PySem.Calls
section
variable {C : Cx} {A : Around} {σ : Store} {X : XP} {s : Shared}
/-- l != m, of two lists of the same values -/
theorem CmpWP.neSelf {l m : Addr} {xs : List V} {Q : V → Store → Prop} (h1 : σ l = some (.list xs)) (h2 : σ m = some (.list xs)) (he : ∀ x ∈ xs, EqI C A σ x) (hu : A.units < 9000) (h : Q (.bool false) σ) : CmpWP C A .NotEq (.ref l) (.ref m) σ Q X := by
  intro s a b S ra rb
  obtain rfl := ra.refI
  obtain rfl := rb.refI
  obtain ⟨items, hI, rl⟩ := (show LstAt C σ l xs from .inl h1).raw S
  obtain ⟨items2, hI2, rl2⟩ := (show LstAt C σ m xs from .inl h2).raw S
  have el := rl.length
  have el2 := rl2.length
  simp only [Array.length_toList] at el el2
  refine RcNeAt.lists (e := fun _ => true) hI hI2 (by (first | lia | omega)) (by simp only [cLine]; (first | lia | omega)) (fun j j1 j2 => ?_) _ _ _ _ ?_
  · have hj : xs[j]? = some (xs[j]'(by (first | lia | omega))) := List.getElem?_eq_getElem (by (first | lia | omega))
    obtain ⟨u, hu1, ru⟩ := rl.get hj
    obtain ⟨v, hv1, rv⟩ := rl2.get hj
    have e1 : items[j] = u := by
      have : items.toList[j]? = some items[j] := by simp [j1]
      rw [this] at hu1; exact Option.some.inj hu1
    have e2 : items2[j] = v := by
      have : items2.toList[j]? = some items2[j] := by simp [j2]
      rw [this] at hv1; exact Option.some.inj hv1
    rw [e1, e2]
    exact he _ (List.getElem_mem (by (first | lia | omega))) s _ _ S ru rv
  · have e3 : ((List.range items.size).all (fun _ => true)) = true := by simp
    rw [e3]
    exact EP.pure S h (.bool _)
end
end Mine

set_option autoImplicit false
set_option linter.unusedVariables false
namespace Mine
open PySem PySem.W PySem.SeqAt PyProof.Rows PySem.Calls
/-- at most n tuples deep, and no range in it -/
def V.flat : Nat → V → Prop
  | 0, v => match v with
    | .tup _ => False
    | .rng _ _ => False
    | _ => True
  | n + 1, v => match v with
    | .tup xs => ∀ x ∈ xs, V.flat n x
    | .rng _ _ => False
    | _ => True
section
variable {C : Cx} {σ : Store}
theorem EqI.flat : ∀ (n : Nat) (x : V) {A : Around}, V.flat n x → A.units + n < 8000 → EqI C A σ x := by
  intro n
  induction n with
  | zero =>
    intro x A hf hu
    cases x with
    | none => exact fun s v u S r1 r2 => by rw [r1.noneI, r2.noneI]; exact EqAt.same _
    | bool b => exact fun s v u S r1 r2 => by rw [r1.boolI, r2.boolI]; exact EqAt.same _
    | ref a => exact EqI.ref
    | typ a => exact fun s v u S r1 r2 => by rw [r1.typI, r2.typI]; exact EqAt.same _
    | blt a => exact fun s v u S r1 r2 => by rw [r1.bltI, r2.bltI]; exact EqAt.same _
    | int i =>
      intro s v u S r1 r2
      obtain ⟨t, rfl⟩ := r1.intI
      obtain ⟨t2, rfl⟩ := r2.intI
      have := EqAt.int_int (A := A.in1) (s := s) i t i t2
      rw [show (i == i) = true by simp] at this
      exact this
    | str i =>
      intro s v u S r1 r2
      obtain ⟨t, rfl⟩ := r1.strI
      obtain ⟨t2, rfl⟩ := r2.strI
      have := EqAt.str_str (A := A.in1) (s := s) i t i t2
      rw [show (i == i) = true by simp] at this
      exact this
    | rng a b => exact hf.elim
    | tup xs => exact hf.elim
  | succ n ih =>
    intro x A hf hu
    cases x with
    | tup xs => exact EqI.tup (by (first | lia | omega)) fun x hx => ih x (hf x hx) (by show A.units + 1 + n < 8000; (first | lia | omega))
    | none => exact ih .none (by cases n <;> trivial) (by (first | lia | omega))
    | bool b => exact ih (.bool b) (by cases n <;> trivial) (by (first | lia | omega))
    | ref a => exact EqI.ref
    | typ a => exact ih (.typ a) (by cases n <;> trivial) (by (first | lia | omega))
    | blt a => exact ih (.blt a) (by cases n <;> trivial) (by (first | lia | omega))
    | int i => exact ih (.int i) (by cases n <;> trivial) (by (first | lia | omega))
    | str i => exact ih (.str i) (by cases n <;> trivial) (by (first | lia | omega))
    | rng a b => exact hf.elim
end
end Mine

set_option autoImplicit false
namespace Mine
open PySem PySem.W PySem.Calls PyProof.Rows

section
variable {tb : String → Option Builtin} {p : Program} {w : World} {n₀ : Nat} {ann : Option Value}
theorem through_of_end {t : Thread} {f : Flow} (h : endAt 0 t = some f) : through t = true := by
  obtain ⟨cur, code, pos, st⟩ := t
  cases st with
  | cons a b => simp [endAt] at h
  | nil =>
    cases cur with
    | pure x => cases x with
      | done g => rfl
      | again c => simp [endAt] at h
    | _ => simp [endAt] at h
theorem through_of_none {t : Thread} (h : endAt 0 t = none) : through t = false := by
  obtain ⟨cur, code, pos, st⟩ := t
  cases st with
  | cons a b => rfl
  | nil =>
    cases cur with
    | pure x => cases x with
      | done g => simp [endAt] at h
      | again c => rfl
    | _ => rfl
theorem topRun_of_seg : ∀ {n : Nat} {s s' : Shared} {t : Thread} {f : Flow} {c : Code} {q : Pos}, segRun tb p w n₀ ann 0 n s t = some (f, s', c, q) → topRun tb p w n₀ ann n s t = some s'
  | 0, _, _, _, _, _, _, h => by cases h
  | n + 1, s, s', t, f, c, q, h => by
    unfold segRun at h
    unfold topRun
    cases he : endAt 0 t with
    | some x => rw [he] at h; cases h; rw [through_of_end he]
    | none =>
      rw [he] at h
      rw [through_of_none he]
      cases hk : stepOk n₀ ann t with
      | false => rw [hk] at h; cases h
      | true =>
        rw [hk] at h
        cases hs : step (denote tb) p w s t with
        | halt o s₂ => rw [hs] at h; cases h
        | go s₂ t₂ => rw [hs] at h; exact topRun_of_seg h
end

/-- what is looked at behind the top -/
def looksAt {α : Type} (p q : Program) (loose : List Str) (Xt : Shared → Bool) (Yf : Shared → α) (g0 : Bool) (H₀ : Heap) (s : Shared) :=
  ((staticsOk (importedModules p.main.body) H₀ s.heap && namesBound p s.heap && gensDone s && laidKept H₀ s.heap), openSeen q loose (importedModules p.main.body) Xt g0 s, Yf s)

/-- the head by one run over a tree of objects -/
theorem left_of_run {p q : Program} {loose : List Str} {Xt : Shared → Bool} {α : Type} {Yf : Shared → α} {Ya : World → α} {N : Nat} {g0 : Bool} {T₀ : Params → BT} {n₀ : Nat} {life : Life} {ann : Option Value} {d₀ : Drawn} {k₀ : Nat} {M : Nat} {H₀ : Params → Heap}
    (open_ : ∀ w : World, (fencedOpening treeTable p w N).map (fun s => (s.heap, s.gens, s.drawn, s.toks)) = some (H₀ w.params, Array.mk [], d₀, k₀))
    (tree : ∀ P, absHeap (T₀ P) n₀ life = H₀ P)
    (size : ∀ w : World, ((H₀ w.params).isNs mainGlobals, (H₀ w.params).nsMap mainGlobals "__annotations__") = (true, ann))
    (le : Nat.ble M N = true)
    (run : ∀ w : World, (fun os => (segRunT treeTable p w n₀ ann 0 M ⟨T₀ w.params, n₀, life, Array.mk [], d₀, k₀, os⟩ (topStub p)).map fun r => looksAt p q loose Xt Yf g0 (H₀ w.params) r.2.1.abs) = fun _ => some (true, openGood q loose, Ya w)) :
    LeftO p q loose Xt Yf Ya N g0 := fun w => by
  obtain ⟨⟨h, gs, d, k, os⟩, e, e'⟩ := Option.map_eq_some_iff.mp (open_ w)
  obtain ⟨rfl, rfl, rfl, rfl⟩ : h = H₀ w.params ∧ gs = Array.mk [] ∧ d = d₀ ∧ k = k₀ := by simpa using e'
  obtain ⟨z1, z3⟩ : _ ∧ _ := by simpa only [Prod.mk.injEq] using size w
  obtain ⟨⟨f, sT, c, pos⟩, r1, r2⟩ := Option.map_eq_some_iff.mp (congrFun (run w) os)
  obtain ⟨l1, l2, l3⟩ : _ ∧ _ ∧ _ := by simpa only [looksAt, Prod.mk.injEq] using r2
  have r0 := topRun_of_seg (segRun_of r1)
  have r := topRun_mono (N - M) _ _ _ _ r0
  rw [show M + (N - M) = N by have := Nat.le_of_ble_eq_true le; omega] at r
  have hz : (H₀ w.params).objs.size = n₀ := by rw [← tree, absHeap_size]
  have ea : (SharedT.mk (T₀ w.params) n₀ life (Array.mk []) d k os).abs = ⟨H₀ w.params, Array.mk [], d, k, os⟩ := by
    show Shared.mk (absHeap (T₀ w.params) n₀ life) _ _ _ _ = _
    rw [tree]
  rw [ea] at r
  have t : topFrom treeTable p w N ⟨H₀ w.params, Array.mk [], d, k, os⟩ = some sT.abs := by
    unfold topFrom
    dsimp only
    rw [z1, hz, z3, r]
    show (match staticsOk (importedModules p.main.body) (H₀ w.params) sT.abs.heap && namesBound p sT.abs.heap && gensDone sT.abs && laidKept (H₀ w.params) sT.abs.heap with | true => some sT.abs | false => none) = _
    rw [l1]
  unfold openEnds
  rw [e]
  show (topFrom treeTable p w N _).map _ = _
  rw [t]
  exact congrArg some (Prod.ext l2 l3)
end Mine

set_option autoImplicit false
namespace Mine
open PySem PySem.W PySem.Calls PyProof.Rows

/- the written part: objects by projection out of the program -/
def nth : List Stmt → Nat → Stmt
  | [], _ => .Pass ⟨0, 0, 0, 0⟩
  | a :: _, 0 => a
  | _ :: l, n + 1 => nth l n
def clsBody : Stmt → List Stmt
  | .ClassDef _ _ _ b _ _ _ _ _ _ _ => b
  | _ => []
def fnO (s : Stmt) (q : Str) (m : Value) (c : Addr) : Obj := match s with
  | .FunctionDef n a b _ _ _ sc _ _ _ => ⟨.type "function", none, .func { name := n, qualname := q, params := a, body := .stmts b, scope := sc, globals := 3, closure := [], defaults := .none, kwdefaults := .none, pyModule := m, code := .ref c }, #[]⟩
  | _ => default
def defRec : Stmt → DefRec
  | .FunctionDef n a b _ _ _ sc _ _ pos => ⟨n, a, b, sc, pos⟩
  | _ => ⟨Str.empty, ⟨[], [], none, [], [], none, []⟩, [], ⟨.module, [], false, false, []⟩, ⟨0, 0, 0, 0⟩⟩
abbrev sv (s : String) (t : Nat) : Value := .str (Str.ofString s) t
abbrev rv (a : Nat) : Value := .ref a
abbrev nv (i : Int) (t : Nat) : Value := .int i t
abbrev de (P : Params) (s : String) (t : Nat) (v : Value) : DictEntry := ⟨PyData.keyHash P (Str.ofString s), .str (Str.ofString s) t, v⟩
abbrev dictO (es : List DictEntry) (n : Nat) : Obj := ⟨.type "dict", none, .dict es.toArray n, #[]⟩
abbrev codeO (vs : List Value) : Obj := ⟨.type "code", none, .fields vs.toArray, #[]⟩

/- the tree of the objects that stand ahead of the text -/
def mkT (l : List Obj) : BT := (l.foldl (fun (t, i) o => (BT.ins t i o, i + 1)) (BT.nil, 0)).1
noncomputable def T0 (P : Params) : BT := mkT (boot_heap P).objs.toList
theorem T0_abs (P : Params) : absHeap (T0 P) 11 {} = boot_heap P := by kernel_rfl
theorem boot_size : ∀ w : World, ((boot_heap w.params).isNs mainGlobals, (boot_heap w.params).nsMap mainGlobals "__annotations__") = (true, some (.ref 6)) := fun w => by kernel_rfl
end Mine

namespace Mine
open PySem PySem.W PySem.Calls PyProof.Rows
set_option Elab.async false
set_option maxRecDepth 1000000
set_option maxHeartbeats 0
noncomputable def keepL : List Nat := [0, 2, 3, 4, 5, 6, 7, 9, 10, 11, 12, 13, 15, 16, 17, 18, 19, 20, 21, 22, 24, 26, 28, 29, 30, 31, 32, 33, 34, 35, 36, 37, 38, 39, 40, 41, 42]
noncomputable def KL : Params → Frag := fun P =>
  (nat_lit 2, ⟨.none, none, .dict [].toArray 0, #[]⟩) ::
  (nat_lit 3, (dictO [de P "__name__" 165 (sv "law_uf030038_04" 577), de P "__doc__" 166 .none, de P "__package__" 167 .none, de P "__loader__" 168 (.builtin "__main__.__loader__#opaque"), de P "__spec__" 169 .none, de P "__annotations__" 170 (rv 6), de P "__builtins__" 171 (rv 4), de P "__file__" 173 (sv "/claim/cut.py" 172), de P "__cached__" 174 .none, de P "_wall" 193 (rv 21), de P "LoomError" 213 (rv 31), de P "NoWord" 229 (rv 44), de P "NoHandler" 245 (rv 56), de P "Twice" 261 (rv 68), de P "Stranger" 277 (rv 80), de P "NoCount" 293 (rv 92), de P "SIGNS" 297 (sv "abcdefghijklmnopqrstuvwxyz" 296), de P "MOST_SIGNS" 299 (nv (12) 298), de P "is_whole" 306 (rv 101), de P "is_word" 312 (rv 106), de P "need_word" 319 (rv 113), de P "MOST_HANDLERS" 323 (nv (40) 322), de P "MOST_DEEDS" 325 (nv (30) 324), de P "MOST_TICKS" 327 (nv (1000000000) 326), de P "WITH_A_WORD" 333 (rv 114), de P "is_deed" 340 (rv 121), de P "is_handler" 346 (rv 126), de P "need_handlers" 358 (rv 133), de P "need_names" 364 (rv 138), de P "Waits" 434 (rv 190), de P "Loom" 576 (rv 302), de P "_law_told_at" 586 (rv 313), de P "_law_mixed" 596 (rv 320), de P "_law_name_by" 607 (rv 327), de P "_law_deed_by" 619 (rv 334), de P "_law_handler_by" 625 (rv 339), de P "_law_twisted" 634 (rv 346), de P "_law_bad_deed" 642 (rv 353), de P "_law_wrong" 656 (rv 360), de P "_law_kind" 664 (rv 367), de P "_law_refused" 673 (rv 374), de P "_law_due" 684 (rv 381), de P "_law_estranged" 697 (rv 388), de P "_law_kinds" 705 (rv 395), de P "_law_let_by" 711 (rv 400), de P "law" 717 (rv 405)] 46)) ::
  (nat_lit 20, (codeO [(sv "_wall" 187), (sv "_wall" 188), (sv "/claim/cut.py" 189), (nv (1) 0), (nv (1) 0), (nv (0) 0), (nv (0) 0), (nv (3) 0), (rv 15), (.bool true), (nv (181) 0), (rv 16), .none, (rv 17), (rv 18), (rv 19), (nv (191) 0), (nv (1) 0), (sv "/claim/cut.py" 192)])) ::
  (nat_lit 21, (fnO (nth PySem.Challenge.pw_uf030038_04.main.body 0) (Str.ofString "_wall") (sv "__main__" 164) 20)) ::
  (nat_lit 30, (dictO [de P "__module__" 203 (sv "eventloom.errors" 194), de P "__firstlineno__" 207 (nv (5) 206), de P "__static_attributes__" 208 (rv 29), de P "__weakref__" 210 (rv 32), de P "__doc__" 211 .none] 3)) ::
  (nat_lit 31, ⟨.type "type", none, .cls { name := Str.ofString "LoomError", bases := [(.type "ValueError")], mro := [(rv 31), (.type "ValueError"), (.type "Exception"), (.type "BaseException"), (.type "object")], ns := 30, qualname := Str.ofString "LoomError", hasDict := true, slotNames := [], subclasses := [(rv 44), (rv 56), (rv 68), (rv 80), (rv 92)], abstract := false, collection := none, hasDel := false }, [some (rv 22), none, some (sv "LoomError" 196), some (sv "LoomError" 204), some (.builtin "ValueError.__new__"), some (.bool true)].toArray⟩) ::
  (nat_lit 32, ⟨(.type "getset_descriptor"), none, .fields [(sv "__weakref__" 209), (rv 31), (.builtin "ExceptionGroup.__weakref__"), .none].toArray, #[]⟩) ::
  (nat_lit 43, (dictO [de P "__module__" 221 (sv "eventloom.errors" 194), de P "__firstlineno__" 225 (nv (7) 224), de P "__static_attributes__" 226 (rv 42), de P "__doc__" 227 .none] 2)) ::
  (nat_lit 44, ⟨.type "type", none, .cls { name := Str.ofString "NoWord", bases := [(rv 31)], mro := [(rv 44), (rv 31), (.type "ValueError"), (.type "Exception"), (.type "BaseException"), (.type "object")], ns := 43, qualname := Str.ofString "NoWord", hasDict := true, slotNames := [], subclasses := [], abstract := false, collection := none, hasDel := false }, [some (rv 35), none, some (sv "NoWord" 214), some (sv "NoWord" 222), some (.builtin "ValueError.__new__"), some (.bool true)].toArray⟩) ::
  (nat_lit 55, (dictO [de P "__module__" 237 (sv "eventloom.errors" 194), de P "__firstlineno__" 241 (nv (9) 240), de P "__static_attributes__" 242 (rv 54), de P "__doc__" 243 .none] 2)) ::
  (nat_lit 56, ⟨.type "type", none, .cls { name := Str.ofString "NoHandler", bases := [(rv 31)], mro := [(rv 56), (rv 31), (.type "ValueError"), (.type "Exception"), (.type "BaseException"), (.type "object")], ns := 55, qualname := Str.ofString "NoHandler", hasDict := true, slotNames := [], subclasses := [], abstract := false, collection := none, hasDel := false }, [some (rv 47), none, some (sv "NoHandler" 230), some (sv "NoHandler" 238), some (.builtin "ValueError.__new__"), some (.bool true)].toArray⟩) ::
  (nat_lit 67, (dictO [de P "__module__" 253 (sv "eventloom.errors" 194), de P "__firstlineno__" 257 (nv (11) 256), de P "__static_attributes__" 258 (rv 66), de P "__doc__" 259 .none] 2)) ::
  (nat_lit 68, ⟨.type "type", none, .cls { name := Str.ofString "Twice", bases := [(rv 31)], mro := [(rv 68), (rv 31), (.type "ValueError"), (.type "Exception"), (.type "BaseException"), (.type "object")], ns := 67, qualname := Str.ofString "Twice", hasDict := true, slotNames := [], subclasses := [], abstract := false, collection := none, hasDel := false }, [some (rv 59), none, some (sv "Twice" 246), some (sv "Twice" 254), some (.builtin "ValueError.__new__"), some (.bool true)].toArray⟩) ::
  (nat_lit 79, (dictO [de P "__module__" 269 (sv "eventloom.errors" 194), de P "__firstlineno__" 273 (nv (13) 272), de P "__static_attributes__" 274 (rv 78), de P "__doc__" 275 .none] 2)) ::
  (nat_lit 80, ⟨.type "type", none, .cls { name := Str.ofString "Stranger", bases := [(rv 31)], mro := [(rv 80), (rv 31), (.type "ValueError"), (.type "Exception"), (.type "BaseException"), (.type "object")], ns := 79, qualname := Str.ofString "Stranger", hasDict := true, slotNames := [], subclasses := [], abstract := false, collection := none, hasDel := false }, [some (rv 71), none, some (sv "Stranger" 262), some (sv "Stranger" 270), some (.builtin "ValueError.__new__"), some (.bool true)].toArray⟩) ::
  (nat_lit 91, (dictO [de P "__module__" 285 (sv "eventloom.errors" 194), de P "__firstlineno__" 289 (nv (15) 288), de P "__static_attributes__" 290 (rv 90), de P "__doc__" 291 .none] 2)) ::
  (nat_lit 92, ⟨.type "type", none, .cls { name := Str.ofString "NoCount", bases := [(rv 31)], mro := [(rv 92), (rv 31), (.type "ValueError"), (.type "Exception"), (.type "BaseException"), (.type "object")], ns := 91, qualname := Str.ofString "NoCount", hasDict := true, slotNames := [], subclasses := [], abstract := false, collection := none, hasDel := false }, [some (rv 83), none, some (sv "NoCount" 278), some (sv "NoCount" 286), some (.builtin "ValueError.__new__"), some (.bool true)].toArray⟩) ::
  (nat_lit 100, (codeO [(sv "is_whole" 300), (sv "is_whole" 301), (sv "/claim/cut.py" 302), (nv (20) 0), (nv (1) 0), (nv (0) 0), (nv (0) 0), (nv (3) 0), (rv 95), (.bool true), (nv (181) 0), (rv 96), .none, (rv 97), (rv 98), (rv 99), (nv (304) 0), (nv (20) 0), (sv "/claim/cut.py" 305)])) ::
  (nat_lit 101, (fnO (nth PySem.Challenge.pw_uf030038_04.main.body 11) (Str.ofString "is_whole") (sv "eventloom.words" 294) 100)) ::
  (nat_lit 105, (codeO [(sv "is_word" 307), (sv "is_word" 308), (sv "/claim/cut.py" 309), (nv (22) 0), (nv (1) 0), (nv (0) 0), (nv (0) 0), (nv (3) 0), (rv 102), (.bool true), (nv (181) 0), (rv 103), .none, .none, .none, (rv 104), (nv (310) 0), (nv (22) 0), (sv "/claim/cut.py" 311)])) ::
  (nat_lit 106, (fnO (nth PySem.Challenge.pw_uf030038_04.main.body 12) (Str.ofString "is_word") (sv "eventloom.words" 294) 105)) ::
  (nat_lit 112, (codeO [(sv "need_word" 313), (sv "need_word" 314), (sv "/claim/cut.py" 315), (nv (26) 0), (nv (1) 0), (nv (0) 0), (nv (0) 0), (nv (3) 0), (rv 107), (.bool true), (nv (181) 0), (rv 108), .none, (rv 109), (rv 110), (rv 111), (nv (317) 0), (nv (26) 0), (sv "/claim/cut.py" 318)])) ::
  (nat_lit 113, (fnO (nth PySem.Challenge.pw_uf030038_04.main.body 13) (Str.ofString "need_word") (sv "eventloom.words" 294) 112)) ::
  (nat_lit 114, ⟨(.type "tuple"), none, .seq [(sv "now" 328), (sv "soon" 329), (sv "cancel" 330), (sv "join" 331), (sv "leave" 332)].toArray 0, #[]⟩) ::
  (nat_lit 120, (codeO [(sv "is_deed" 334), (sv "is_deed" 335), (sv "/claim/cut.py" 336), (nv (35) 0), (nv (1) 0), (nv (0) 0), (nv (0) 0), (nv (3) 0), (rv 115), (.bool true), (nv (181) 0), (rv 116), .none, (rv 117), (rv 118), (rv 119), (nv (338) 0), (nv (35) 0), (sv "/claim/cut.py" 339)])) ::
  (nat_lit 121, (fnO (nth PySem.Challenge.pw_uf030038_04.main.body 19) (Str.ofString "is_deed") (sv "eventloom.handlers" 320) 120)) ::
  (nat_lit 125, (codeO [(sv "is_handler" 341), (sv "is_handler" 342), (sv "/claim/cut.py" 343), (nv (45) 0), (nv (1) 0), (nv (0) 0), (nv (0) 0), (nv (3) 0), (rv 122), (.bool true), (nv (181) 0), (rv 123), .none, .none, .none, (rv 124), (nv (344) 0), (nv (45) 0), (sv "/claim/cut.py" 345)])) ::
  (nat_lit 126, (fnO (nth PySem.Challenge.pw_uf030038_04.main.body 20) (Str.ofString "is_handler") (sv "eventloom.handlers" 320) 125)) ::
  (nat_lit 132, (codeO [(sv "need_handlers" 347), (sv "need_handlers" 348), (sv "/claim/cut.py" 349), (nv (55) 0), (nv (1) 0), (nv (0) 0), (nv (0) 0), (nv (3) 0), (rv 127), (.bool true), (nv (181) 0), (rv 128), .none, (rv 129), (rv 130), (rv 131), (nv (356) 0), (nv (55) 0), (sv "/claim/cut.py" 357)])) ::
  (nat_lit 133, (fnO (nth PySem.Challenge.pw_uf030038_04.main.body 21) (Str.ofString "need_handlers") (sv "eventloom.handlers" 320) 132)) ::
  (nat_lit 137, (codeO [(sv "need_names" 359), (sv "need_names" 360), (sv "/claim/cut.py" 361), (nv (70) 0), (nv (2) 0), (nv (0) 0), (nv (0) 0), (nv (3) 0), (rv 134), (.bool true), (nv (181) 0), (rv 135), .none, .none, .none, (rv 136), (nv (362) 0), (nv (70) 0), (sv "/claim/cut.py" 363)])) ::
  (nat_lit 138, (fnO (nth PySem.Challenge.pw_uf030038_04.main.body 22) (Str.ofString "need_names") (sv "eventloom.handlers" 320) 137)) ::
  (nat_lit 151, (codeO [(sv "__init__" 379), (sv "Waits.__init__" 380), (sv "/claim/cut.py" 381), (nv (83) 0), (nv (1) 0), (nv (0) 0), (nv (0) 0), (nv (3) 0), (rv 146), (.bool true), (nv (181) 0), (rv 147), .none, (rv 148), (rv 149), (rv 150), (nv (383) 0), (nv (83) 0), (sv "/claim/cut.py" 384)])) ::
  (nat_lit 152, (fnO (nth (clsBody (nth PySem.Challenge.pw_uf030038_04.main.body 24)) 0) (Str.ofString "Waits.__init__") (sv "eventloom.waits" 365) 151)) ::
  (nat_lit 158, (codeO [(sv "sooner" 386), (sv "Waits.sooner" 387), (sv "/claim/cut.py" 388), (nv (87) 0), (nv (2) 0), (nv (0) 0), (nv (0) 0), (nv (3) 0), (rv 153), (.bool true), (nv (181) 0), (rv 154), .none, (rv 155), (rv 156), (rv 157), (nv (391) 0), (nv (87) 0), (sv "/claim/cut.py" 392)])) ::
  (nat_lit 159, (fnO (nth (clsBody (nth PySem.Challenge.pw_uf030038_04.main.body 24)) 1) (Str.ofString "Waits.sooner") (sv "eventloom.waits" 365) 158)) ::
  (nat_lit 165, (codeO [(sv "later" 394), (sv "Waits.later" 395), (sv "/claim/cut.py" 396), (nv (90) 0), (nv (3) 0), (nv (0) 0), (nv (0) 0), (nv (3) 0), (rv 160), (.bool true), (nv (181) 0), (rv 161), .none, (rv 162), (rv 163), (rv 164), (nv (400) 0), (nv (90) 0), (sv "/claim/cut.py" 401)])) ::
  (nat_lit 166, (fnO (nth (clsBody (nth PySem.Challenge.pw_uf030038_04.main.body 24)) 2) (Str.ofString "Waits.later") (sv "eventloom.waits" 365) 165)) ::
  (nat_lit 172, (codeO [(sv "lineup" 403), (sv "Waits.lineup" 404), (sv "/claim/cut.py" 405), (nv (93) 0), (nv (1) 0), (nv (0) 0), (nv (0) 0), (nv (3) 0), (rv 167), (.bool true), (nv (181) 0), (rv 168), .none, (rv 169), (rv 170), (rv 171), (nv (407) 0), (nv (93) 0), (sv "/claim/cut.py" 408)])) ::
  (nat_lit 173, (fnO (nth (clsBody (nth PySem.Challenge.pw_uf030038_04.main.body 24)) 3) (Str.ofString "Waits.lineup") (sv "eventloom.waits" 365) 172)) ::
  (nat_lit 179, (codeO [(sv "lead" 410), (sv "Waits.lead" 411), (sv "/claim/cut.py" 412), (nv (96) 0), (nv (1) 0), (nv (0) 0), (nv (0) 0), (nv (3) 0), (rv 174), (.bool true), (nv (181) 0), (rv 175), .none, (rv 176), (rv 177), (rv 178), (nv (414) 0), (nv (96) 0), (sv "/claim/cut.py" 415)])) ::
  (nat_lit 180, (fnO (nth (clsBody (nth PySem.Challenge.pw_uf030038_04.main.body 24)) 4) (Str.ofString "Waits.lead") (sv "eventloom.waits" 365) 179)) ::
  (nat_lit 186, (codeO [(sv "drop" 417), (sv "Waits.drop" 418), (sv "/claim/cut.py" 419), (nv (99) 0), (nv (2) 0), (nv (0) 0), (nv (0) 0), (nv (3) 0), (rv 181), (.bool true), (nv (181) 0), (rv 182), .none, (rv 183), (rv 184), (rv 185), (nv (422) 0), (nv (99) 0), (sv "/claim/cut.py" 423)])) ::
  (nat_lit 187, (fnO (nth (clsBody (nth PySem.Challenge.pw_uf030038_04.main.body 24)) 5) (Str.ofString "Waits.drop") (sv "eventloom.waits" 365) 186)) ::
  (nat_lit 189, (dictO [de P "__module__" 374 (sv "eventloom.waits" 365), de P "__firstlineno__" 378 (nv (81) 377), de P "__init__" 385 (rv 152), de P "sooner" 393 (rv 159), de P "later" 402 (rv 166), de P "lineup" 409 (rv 173), de P "lead" 416 (rv 180), de P "drop" 424 (rv 187), de P "__static_attributes__" 427 (rv 188), de P "__dict__" 429 (rv 191), de P "__weakref__" 431 (rv 192), de P "__doc__" 432 .none] 4)) ::
  (nat_lit 190, ⟨.type "type", none, .cls { name := Str.ofString "Waits", bases := [(.type "object")], mro := [(rv 190), (.type "object")], ns := 189, qualname := Str.ofString "Waits", hasDict := true, slotNames := [], subclasses := [], abstract := false, collection := none, hasDel := false }, [none, none, some (sv "Waits" 367), some (sv "Waits" 375), some (.builtin "object.__new__"), some (.bool true)].toArray⟩) ::
  (nat_lit 191, ⟨(.type "getset_descriptor"), none, .fields [(sv "__dict__" 428), (rv 190), (.builtin "function.__dict__"), (.builtin "function.__dict__#set")].toArray, #[]⟩) ::
  (nat_lit 192, ⟨(.type "getset_descriptor"), none, .fields [(sv "__weakref__" 430), (rv 190), (.builtin "ExceptionGroup.__weakref__"), .none].toArray, #[]⟩) ::
  (nat_lit 207, (codeO [(sv "__init__" 449), (sv "Loom.__init__" 450), (sv "/claim/cut.py" 451), (nv (104) 0), (nv (3) 0), (nv (0) 0), (nv (0) 0), (nv (3) 0), (rv 202), (.bool true), (nv (181) 0), (rv 203), .none, (rv 204), (rv 205), (rv 206), (nv (455) 0), (nv (104) 0), (sv "/claim/cut.py" 456)])) ::
  (nat_lit 208, (fnO (nth (clsBody (nth PySem.Challenge.pw_uf030038_04.main.body 26)) 0) (Str.ofString "Loom.__init__") (sv "eventloom.loom" 435) 207)) ::
  (nat_lit 214, (codeO [(sv "send" 458), (sv "Loom.send" 459), (sv "/claim/cut.py" 460), (nv (114) 0), (nv (2) 0), (nv (0) 0), (nv (0) 0), (nv (3) 0), (rv 209), (.bool true), (nv (181) 0), (rv 210), .none, (rv 211), (rv 212), (rv 213), (nv (464) 0), (nv (114) 0), (sv "/claim/cut.py" 465)])) ::
  (nat_lit 215, (fnO (nth (clsBody (nth PySem.Challenge.pw_uf030038_04.main.body 26)) 1) (Str.ofString "Loom.send") (sv "eventloom.loom" 435) 214)) ::
  (nat_lit 221, (codeO [(sv "step" 467), (sv "Loom.step" 468), (sv "/claim/cut.py" 469), (nv (121) 0), (nv (1) 0), (nv (0) 0), (nv (0) 0), (nv (3) 0), (rv 216), (.bool true), (nv (181) 0), (rv 217), .none, (rv 218), (rv 219), (rv 220), (nv (471) 0), (nv (121) 0), (sv "/claim/cut.py" 472)])) ::
  (nat_lit 222, (fnO (nth (clsBody (nth PySem.Challenge.pw_uf030038_04.main.body 26)) 2) (Str.ofString "Loom.step") (sv "eventloom.loom" 435) 221)) ::
  (nat_lit 228, (codeO [(sv "begin" 474), (sv "Loom.begin" 475), (sv "/claim/cut.py" 476), (nv (124) 0), (nv (2) 0), (nv (0) 0), (nv (0) 0), (nv (3) 0), (rv 223), (.bool true), (nv (181) 0), (rv 224), .none, (rv 225), (rv 226), (rv 227), (nv (479) 0), (nv (124) 0), (sv "/claim/cut.py" 480)])) ::
  (nat_lit 229, (fnO (nth (clsBody (nth PySem.Challenge.pw_uf030038_04.main.body 26)) 3) (Str.ofString "Loom.begin") (sv "eventloom.loom" 435) 228)) ::
  (nat_lit 235, (codeO [(sv "go_on" 482), (sv "Loom.go_on" 483), (sv "/claim/cut.py" 484), (nv (127) 0), (nv (2) 0), (nv (0) 0), (nv (0) 0), (nv (3) 0), (rv 230), (.bool true), (nv (181) 0), (rv 231), .none, (rv 232), (rv 233), (rv 234), (nv (487) 0), (nv (127) 0), (sv "/claim/cut.py" 488)])) ::
  (nat_lit 236, (fnO (nth (clsBody (nth PySem.Challenge.pw_uf030038_04.main.body 26)) 4) (Str.ofString "Loom.go_on") (sv "eventloom.loom" 435) 235)) ::
  (nat_lit 242, (codeO [(sv "call_in" 490), (sv "Loom.call_in" 491), (sv "/claim/cut.py" 492), (nv (130) 0), (nv (3) 0), (nv (0) 0), (nv (0) 0), (nv (3) 0), (rv 237), (.bool true), (nv (181) 0), (rv 238), .none, (rv 239), (rv 240), (rv 241), (nv (496) 0), (nv (130) 0), (sv "/claim/cut.py" 497)])) ::
  (nat_lit 243, (fnO (nth (clsBody (nth PySem.Challenge.pw_uf030038_04.main.body 26)) 5) (Str.ofString "Loom.call_in") (sv "eventloom.loom" 435) 242)) ::
  (nat_lit 249, (codeO [(sv "send_away" 499), (sv "Loom.send_away" 500), (sv "/claim/cut.py" 501), (nv (133) 0), (nv (2) 0), (nv (0) 0), (nv (0) 0), (nv (3) 0), (rv 244), (.bool true), (nv (181) 0), (rv 245), .none, (rv 246), (rv 247), (rv 248), (nv (504) 0), (nv (133) 0), (sv "/claim/cut.py" 505)])) ::
  (nat_lit 250, (fnO (nth (clsBody (nth PySem.Challenge.pw_uf030038_04.main.body 26)) 6) (Str.ofString "Loom.send_away") (sv "eventloom.loom" 435) 249)) ::
  (nat_lit 256, (codeO [(sv "do_deed" 507), (sv "Loom.do_deed" 508), (sv "/claim/cut.py" 509), (nv (136) 0), (nv (3) 0), (nv (0) 0), (nv (0) 0), (nv (3) 0), (rv 251), (.bool true), (nv (181) 0), (rv 252), .none, (rv 253), (rv 254), (rv 255), (nv (513) 0), (nv (136) 0), (sv "/claim/cut.py" 514)])) ::
  (nat_lit 257, (fnO (nth (clsBody (nth PySem.Challenge.pw_uf030038_04.main.body 26)) 7) (Str.ofString "Loom.do_deed") (sv "eventloom.loom" 435) 256)) ::
  (nat_lit 263, (codeO [(sv "make" 516), (sv "Loom.make" 517), (sv "/claim/cut.py" 518), (nv (139) 0), (nv (3) 0), (nv (0) 0), (nv (0) 0), (nv (3) 0), (rv 258), (.bool true), (nv (181) 0), (rv 259), .none, (rv 260), (rv 261), (rv 262), (nv (522) 0), (nv (139) 0), (sv "/claim/cut.py" 523)])) ::
  (nat_lit 264, (fnO (nth (clsBody (nth PySem.Challenge.pw_uf030038_04.main.body 26)) 8) (Str.ofString "Loom.make") (sv "eventloom.loom" 435) 263)) ::
  (nat_lit 270, (codeO [(sv "run" 525), (sv "Loom.run" 526), (sv "/claim/cut.py" 527), (nv (142) 0), (nv (2) 0), (nv (0) 0), (nv (0) 0), (nv (3) 0), (rv 265), (.bool true), (nv (181) 0), (rv 266), .none, (rv 267), (rv 268), (rv 269), (nv (530) 0), (nv (142) 0), (sv "/claim/cut.py" 531)])) ::
  (nat_lit 271, (fnO (nth (clsBody (nth PySem.Challenge.pw_uf030038_04.main.body 26)) 9) (Str.ofString "Loom.run") (sv "eventloom.loom" 435) 270)) ::
  (nat_lit 277, (codeO [(sv "waiting" 533), (sv "Loom.waiting" 534), (sv "/claim/cut.py" 535), (nv (145) 0), (nv (1) 0), (nv (0) 0), (nv (0) 0), (nv (3) 0), (rv 272), (.bool true), (nv (181) 0), (rv 273), .none, (rv 274), (rv 275), (rv 276), (nv (537) 0), (nv (145) 0), (sv "/claim/cut.py" 538)])) ::
  (nat_lit 278, (fnO (nth (clsBody (nth PySem.Challenge.pw_uf030038_04.main.body 26)) 10) (Str.ofString "Loom.waiting") (sv "eventloom.loom" 435) 277)) ::
  (nat_lit 284, (codeO [(sv "around" 540), (sv "Loom.around" 541), (sv "/claim/cut.py" 542), (nv (148) 0), (nv (1) 0), (nv (0) 0), (nv (0) 0), (nv (3) 0), (rv 279), (.bool true), (nv (181) 0), (rv 280), .none, (rv 281), (rv 282), (rv 283), (nv (544) 0), (nv (148) 0), (sv "/claim/cut.py" 545)])) ::
  (nat_lit 285, (fnO (nth (clsBody (nth PySem.Challenge.pw_uf030038_04.main.body 26)) 11) (Str.ofString "Loom.around") (sv "eventloom.loom" 435) 284)) ::
  (nat_lit 291, (codeO [(sv "standing" 547), (sv "Loom.standing" 548), (sv "/claim/cut.py" 549), (nv (151) 0), (nv (1) 0), (nv (0) 0), (nv (0) 0), (nv (3) 0), (rv 286), (.bool true), (nv (181) 0), (rv 287), .none, (rv 288), (rv 289), (rv 290), (nv (551) 0), (nv (151) 0), (sv "/claim/cut.py" 552)])) ::
  (nat_lit 292, (fnO (nth (clsBody (nth PySem.Challenge.pw_uf030038_04.main.body 26)) 12) (Str.ofString "Loom.standing") (sv "eventloom.loom" 435) 291)) ::
  (nat_lit 298, (codeO [(sv "idle" 554), (sv "Loom.idle" 555), (sv "/claim/cut.py" 556), (nv (154) 0), (nv (1) 0), (nv (0) 0), (nv (0) 0), (nv (3) 0), (rv 293), (.bool true), (nv (181) 0), (rv 294), .none, (rv 295), (rv 296), (rv 297), (nv (558) 0), (nv (154) 0), (sv "/claim/cut.py" 559)])) ::
  (nat_lit 299, (fnO (nth (clsBody (nth PySem.Challenge.pw_uf030038_04.main.body 26)) 13) (Str.ofString "Loom.idle") (sv "eventloom.loom" 435) 298)) ::
  (nat_lit 301, (dictO [de P "__module__" 444 (sv "eventloom.loom" 435), de P "__firstlineno__" 448 (nv (102) 447), de P "__init__" 457 (rv 208), de P "send" 466 (rv 215), de P "step" 473 (rv 222), de P "begin" 481 (rv 229), de P "go_on" 489 (rv 236), de P "call_in" 498 (rv 243), de P "send_away" 506 (rv 250), de P "do_deed" 515 (rv 257), de P "make" 524 (rv 264), de P "run" 532 (rv 271), de P "waiting" 539 (rv 278), de P "around" 546 (rv 285), de P "standing" 553 (rv 292), de P "idle" 560 (rv 299), de P "__static_attributes__" 569 (rv 300), de P "__dict__" 571 (rv 303), de P "__weakref__" 573 (rv 304), de P "__doc__" 574 .none] 4)) ::
  (nat_lit 302, ⟨.type "type", none, .cls { name := Str.ofString "Loom", bases := [(.type "object")], mro := [(rv 302), (.type "object")], ns := 301, qualname := Str.ofString "Loom", hasDict := true, slotNames := [], subclasses := [], abstract := false, collection := none, hasDel := false }, [none, none, some (sv "Loom" 437), some (sv "Loom" 445), some (.builtin "object.__new__"), some (.bool true)].toArray⟩) ::
  (nat_lit 303, ⟨(.type "getset_descriptor"), none, .fields [(sv "__dict__" 570), (rv 302), (.builtin "function.__dict__"), (.builtin "function.__dict__#set")].toArray, #[]⟩) ::
  (nat_lit 304, ⟨(.type "getset_descriptor"), none, .fields [(sv "__weakref__" 572), (rv 302), (.builtin "ExceptionGroup.__weakref__"), .none].toArray, #[]⟩) ::
  (nat_lit 312, (codeO [(sv "_law_told_at" 579), (sv "_law_told_at" 580), (sv "/claim/cut.py" 581), (nv (157) 0), (nv (2) 0), (nv (0) 0), (nv (0) 0), (nv (3) 0), (rv 307), (.bool true), (nv (181) 0), (rv 308), .none, (rv 309), (rv 310), (rv 311), (nv (584) 0), (nv (157) 0), (sv "/claim/cut.py" 585)])) ::
  (nat_lit 313, (fnO (nth PySem.Challenge.pw_uf030038_04.main.body 28) (Str.ofString "_law_told_at") (sv "law_uf030038_04" 577) 312)) ::
  (nat_lit 319, (codeO [(sv "_law_mixed" 587), (sv "_law_mixed" 588), (sv "/claim/cut.py" 589), (nv (161) 0), (nv (3) 0), (nv (0) 0), (nv (0) 0), (nv (3) 0), (rv 314), (.bool true), (nv (181) 0), (rv 315), .none, (rv 316), (rv 317), (rv 318), (nv (594) 0), (nv (161) 0), (sv "/claim/cut.py" 595)])) ::
  (nat_lit 320, (fnO (nth PySem.Challenge.pw_uf030038_04.main.body 29) (Str.ofString "_law_mixed") (sv "law_uf030038_04" 577) 319)) ::
  (nat_lit 326, (codeO [(sv "_law_name_by" 597), (sv "_law_name_by" 598), (sv "/claim/cut.py" 599), (nv (164) 0), (nv (2) 0), (nv (0) 0), (nv (0) 0), (nv (3) 0), (rv 321), (.bool true), (nv (181) 0), (rv 322), .none, (rv 323), (rv 324), (rv 325), (nv (605) 0), (nv (164) 0), (sv "/claim/cut.py" 606)])) ::
  (nat_lit 327, (fnO (nth PySem.Challenge.pw_uf030038_04.main.body 30) (Str.ofString "_law_name_by") (sv "law_uf030038_04" 577) 326)) ::
  (nat_lit 333, (codeO [(sv "_law_deed_by" 608), (sv "_law_deed_by" 609), (sv "/claim/cut.py" 610), (nv (169) 0), (nv (3) 0), (nv (0) 0), (nv (0) 0), (nv (3) 0), (rv 328), (.bool true), (nv (181) 0), (rv 329), .none, (rv 330), (rv 331), (rv 332), (nv (617) 0), (nv (169) 0), (sv "/claim/cut.py" 618)])) ::
  (nat_lit 334, (fnO (nth PySem.Challenge.pw_uf030038_04.main.body 31) (Str.ofString "_law_deed_by") (sv "law_uf030038_04" 577) 333)) ::
  (nat_lit 338, (codeO [(sv "_law_handler_by" 620), (sv "_law_handler_by" 621), (sv "/claim/cut.py" 622), (nv (175) 0), (nv (3) 0), (nv (0) 0), (nv (0) 0), (nv (3) 0), (rv 335), (.bool true), (nv (181) 0), (rv 336), .none, .none, .none, (rv 337), (nv (623) 0), (nv (175) 0), (sv "/claim/cut.py" 624)])) ::
  (nat_lit 339, (fnO (nth PySem.Challenge.pw_uf030038_04.main.body 32) (Str.ofString "_law_handler_by") (sv "law_uf030038_04" 577) 338)) ::
  (nat_lit 345, (codeO [(sv "_law_twisted" 626), (sv "_law_twisted" 627), (sv "/claim/cut.py" 628), (nv (183) 0), (nv (1) 0), (nv (0) 0), (nv (0) 0), (nv (3) 0), (rv 340), (.bool true), (nv (181) 0), (rv 341), .none, (rv 342), (rv 343), (rv 344), (nv (632) 0), (nv (183) 0), (sv "/claim/cut.py" 633)])) ::
  (nat_lit 346, (fnO (nth PySem.Challenge.pw_uf030038_04.main.body 33) (Str.ofString "_law_twisted") (sv "law_uf030038_04" 577) 345)) ::
  (nat_lit 352, (codeO [(sv "_law_bad_deed" 635), (sv "_law_bad_deed" 636), (sv "/claim/cut.py" 637), (nv (193) 0), (nv (1) 0), (nv (0) 0), (nv (0) 0), (nv (3) 0), (rv 347), (.bool true), (nv (181) 0), (rv 348), .none, (rv 349), (rv 350), (rv 351), (nv (640) 0), (nv (193) 0), (sv "/claim/cut.py" 641)])) ::
  (nat_lit 353, (fnO (nth PySem.Challenge.pw_uf030038_04.main.body 34) (Str.ofString "_law_bad_deed") (sv "law_uf030038_04" 577) 352)) ::
  (nat_lit 359, (codeO [(sv "_law_wrong" 643), (sv "_law_wrong" 644), (sv "/claim/cut.py" 645), (nv (201) 0), (nv (3) 0), (nv (0) 0), (nv (0) 0), (nv (3) 0), (rv 354), (.bool true), (nv (181) 0), (rv 355), .none, (rv 356), (rv 357), (rv 358), (nv (654) 0), (nv (201) 0), (sv "/claim/cut.py" 655)])) ::
  (nat_lit 360, (fnO (nth PySem.Challenge.pw_uf030038_04.main.body 35) (Str.ofString "_law_wrong") (sv "law_uf030038_04" 577) 359)) ::
  (nat_lit 366, (codeO [(sv "_law_kind" 657), (sv "_law_kind" 658), (sv "/claim/cut.py" 659), (nv (216) 0), (nv (1) 0), (nv (0) 0), (nv (0) 0), (nv (3) 0), (rv 361), (.bool true), (nv (181) 0), (rv 362), .none, (rv 363), (rv 364), (rv 365), (nv (662) 0), (nv (216) 0), (sv "/claim/cut.py" 663)])) ::
  (nat_lit 367, (fnO (nth PySem.Challenge.pw_uf030038_04.main.body 36) (Str.ofString "_law_kind") (sv "law_uf030038_04" 577) 366)) ::
  (nat_lit 373, (codeO [(sv "_law_refused" 665), (sv "_law_refused" 666), (sv "/claim/cut.py" 667), (nv (222) 0), (nv (2) 0), (nv (0) 0), (nv (0) 0), (nv (3) 0), (rv 368), (.bool true), (nv (181) 0), (rv 369), .none, (rv 370), (rv 371), (rv 372), (nv (671) 0), (nv (222) 0), (sv "/claim/cut.py" 672)])) ::
  (nat_lit 374, (fnO (nth PySem.Challenge.pw_uf030038_04.main.body 37) (Str.ofString "_law_refused") (sv "law_uf030038_04" 577) 373)) ::
  (nat_lit 380, (codeO [(sv "_law_due" 674), (sv "_law_due" 675), (sv "/claim/cut.py" 676), (nv (231) 0), (nv (4) 0), (nv (0) 0), (nv (0) 0), (nv (3) 0), (rv 375), (.bool true), (nv (181) 0), (rv 376), .none, (rv 377), (rv 378), (rv 379), (nv (682) 0), (nv (231) 0), (sv "/claim/cut.py" 683)])) ::
  (nat_lit 381, (fnO (nth PySem.Challenge.pw_uf030038_04.main.body 38) (Str.ofString "_law_due") (sv "law_uf030038_04" 577) 380)) ::
  (nat_lit 387, (codeO [(sv "_law_estranged" 685), (sv "_law_estranged" 686), (sv "/claim/cut.py" 687), (nv (240) 0), (nv (2) 0), (nv (0) 0), (nv (0) 0), (nv (3) 0), (rv 382), (.bool true), (nv (181) 0), (rv 383), .none, (rv 384), (rv 385), (rv 386), (nv (695) 0), (nv (240) 0), (sv "/claim/cut.py" 696)])) ::
  (nat_lit 388, (fnO (nth PySem.Challenge.pw_uf030038_04.main.body 39) (Str.ofString "_law_estranged") (sv "law_uf030038_04" 577) 387)) ::
  (nat_lit 394, (codeO [(sv "_law_kinds" 698), (sv "_law_kinds" 699), (sv "/claim/cut.py" 700), (nv (243) 0), (nv (1) 0), (nv (0) 0), (nv (0) 0), (nv (3) 0), (rv 389), (.bool true), (nv (181) 0), (rv 390), .none, (rv 391), (rv 392), (rv 393), (nv (703) 0), (nv (243) 0), (sv "/claim/cut.py" 704)])) ::
  (nat_lit 395, (fnO (nth PySem.Challenge.pw_uf030038_04.main.body 40) (Str.ofString "_law_kinds") (sv "law_uf030038_04" 577) 394)) ::
  (nat_lit 399, (codeO [(sv "_law_let_by" 706), (sv "_law_let_by" 707), (sv "/claim/cut.py" 708), (nv (248) 0), (nv (2) 0), (nv (0) 0), (nv (0) 0), (nv (3) 0), (rv 396), (.bool true), (nv (181) 0), (rv 397), .none, .none, .none, (rv 398), (nv (709) 0), (nv (248) 0), (sv "/claim/cut.py" 710)])) ::
  (nat_lit 400, (fnO (nth PySem.Challenge.pw_uf030038_04.main.body 41) (Str.ofString "_law_let_by") (sv "law_uf030038_04" 577) 399)) ::
  (nat_lit 404, (codeO [(sv "law" 712), (sv "law" 713), (sv "/claim/cut.py" 714), (nv (256) 0), (nv (1) 0), (nv (0) 0), (nv (0) 0), (nv (3) 0), (rv 401), (.bool true), (nv (181) 0), (rv 402), .none, .none, .none, (rv 403), (nv (715) 0), (nv (256) 0), (sv "/claim/cut.py" 716)])) ::
  (nat_lit 405, (fnO (nth PySem.Challenge.pw_uf030038_04.main.body 42) (Str.ofString "law") (sv "law_uf030038_04" 577) 404)) :: []
noncomputable def asL : List Addr := [2, 3, 20, 21, 30, 31, 32, 43, 44, 55, 56, 67, 68, 79, 80, 91, 92, 100, 101, 105, 106, 112, 113, 114, 120, 121, 125, 126, 132, 133, 137, 138, 151, 152, 158, 159, 165, 166, 172, 173, 179, 180, 186, 187, 189, 190, 191, 192, 207, 208, 214, 215, 221, 222, 228, 229, 235, 236, 242, 243, 249, 250, 256, 257, 263, 264, 270, 271, 277, 278, 284, 285, 291, 292, 298, 299, 301, 302, 303, 304, 312, 313, 319, 320, 326, 327, 333, 334, 338, 339, 345, 346, 352, 353, 359, 360, 366, 367, 373, 374, 380, 381, 387, 388, 394, 395, 399, 400, 404, 405]
theorem asL_eq : ∀ P, asL = (KL P).map (·.1) := fun _ => by kernel_rfl
noncomputable abbrev HL : Hook := kmHook KL asL asL_eq []
noncomputable abbrev qL : Program := view PySem.Challenge.pw_uf030038_04 keepL
noncomputable abbrev XtL : Shared → Bool := fun s => xlAt qL [] s && recOk [] s
theorem saidL (h : PySem.Challenge.rw_uf030038_04.row.wellSaid = true → PySem.Challenge.rw_uf030038_04.row.Holds) : PySem.Challenge.rw_uf030038_04.Holds := by
  refine holds_law (by kernel_rfl) fun said => ?_
  exact h said
theorem runL : ∀ w : World, (fun os => (segRunT treeTable PySem.Challenge.pw_uf030038_04 w 11 (some (.ref 6)) 0 3115 ⟨T0 w.params, 11, {}, Array.mk [], boot_drawn, boot_toks, os⟩ (topStub PySem.Challenge.pw_uf030038_04)).map fun r => looksAt PySem.Challenge.pw_uf030038_04 qL [] XtL (Hook.obs HL) true (boot_heap w.params) r.2.1.abs) = fun _ => some (true, openGood qL [], Hook.val HL w) := by
  intro w
  unfold looksAt
  show _ = fun _ => some (true, openGood qL [], ((KL w.params).map fun p => some p.2, [].map fun _ => some (tabObj #[])))
  unfold KL XtL qL
  rw [PySem.W.Fast.te10110043849684766642, PySem.W.Fast.te14364793385576792824, PySem.W.Fast.te4187177175401517315, PySem.W.Fast.te5923862056798008813]
  kernel_rfl
theorem leftL : LeftO PySem.Challenge.pw_uf030038_04 qL [] XtL (Hook.obs HL) (Hook.val HL) 6290 :=
  left_of_run (T₀ := T0) (n₀ := 11) (life := {}) (ann := some (.ref 6)) (M := 3115) (H₀ := boot_heap) (boot_open (by kernel_rfl) rfl fun _ => by kernel_rfl) T0_abs boot_size rfl runL
noncomputable abbrev dL : DefRec := defRec (nth PySem.Challenge.pw_uf030038_04.main.body 42)
theorem defL : defOf qL (Str.ofString "law") = some (dL, []) := by
  unfold qL dL
  kernel_rfl
theorem theL : PySem.Challenge.pw_uf030038_04.theDef (Str.ofString "law") = some (dL.params, dL.body, dL.scope) := by
  unfold dL
  kernel_rfl
theorem okL : (chainsOk qL && opensWell PySem.Challenge.pw_uf030038_04 && (frees PySem.Challenge.rw_uf030038_04.row.toRowW && PySem.Challenge.rw_uf030038_04.row.within.isEmpty)) = true := by
  show (chainsOk qL && opensWell PySem.Challenge.pw_uf030038_04 && (frees PySem.Challenge.rw_uf030038_04.row.toRowW && true)) = true
  unfold qL
  kernel_rfl
theorem bareL : PySem.Challenge.pw_uf030038_04.bare := ⟨rfl, rfl, rfl, rfl, rfl, by decide +kernel⟩
theorem hd (call : WalkO qL [] (XL qL []) (Hook.says HL) PySem.Challenge.rw_uf030038_04.row.toRowW dL [] (fun f vs => PySem.call f vs)) : PySem.Challenge.rw_uf030038_04.Holds :=
  saidL fun said => holds_open (r := PySem.Challenge.rw_uf030038_04.row) (q := qL) (loose := []) (Xt := XtL) (XP := XL qL []) (Yf := Hook.obs HL) (Ya := Hook.val HL) (YP := Hook.says HL) (N := 6290) leftL (Hook.of HL) (Hook.keeps HL) (fun s e => xl_of s (Bool.and_eq_true_iff.mp e).1) XL.keeps defL theL rfl (fun s e => recFacts_of (Bool.and_eq_true_iff.mp e).2) rfl said okL bareL (by w_witness2) call
end Mine

open PySem PySem.W PySem.SeqAt PyProof.Rows
set_option Elab.async false
set_option maxRecDepth 100000
set_option maxHeartbeats 8000000
set_option linter.unusedVariables false
set_option linter.unusedSimpArgs false
namespace Mine
theorem kept : KL = KL ∧ PySem.Challenge.rw_uf030038_04 = PySem.Challenge.rw_uf030038_04 := by
  k_fill
  exact ⟨rfl, rfl⟩
variable {C : Cx} {A : Around} {σ : Store} {X : XP}
theorem words : True := by
  k_with_none
  k_with "mK" => ((rw [hK]; k_is))
  k_with "mne" => (exact ofS_ne (by decide))
  k_with "mget" => (first   | with_reducible exact Rho.get_hit   | with_reducible exact Rho.gp_hit   | with_reducible assumption   | (focus ((with_reducible apply Rho.get_miss); (focus (k_extra "mne")); (focus (k_extra "mget"))))   | (focus ((with_reducible apply Rho.gp_miss); (focus (k_extra "mne")); (focus (k_extra "mget")))))
  k_with "mput" => (first   | with_reducible exact Rho.put_hit   | with_reducible exact Rho.put_nil   | (focus ((with_reducible apply Rho.put_miss); (focus (k_extra "mne")); (focus (k_extra "mput"))))   | with_reducible exact rfl)
  k_with "mcapt" => (first   | exact Capt.nil   | (focus ((with_reducible apply Capt.take); (focus (k_extra "mget")); (focus (k_extra "mcapt"))))   | (focus ((with_reducible apply Capt.skip); (focus (decide)); (focus (k_extra "mcapt")))))
  k_with "mvrs" => (first   | exact VRs.nil   | (focus ((with_reducible apply VRs.cons); (focus (k_extra "mvr")); (focus (k_extra "mvrs")))))
  k_with "mvr" => (first | (focus ((with_reducible apply VR.gtup); (focus (k_extra "mK")); (focus (k_extra "mvrs")))) | exact VR.ref _ | exact VR.int _ _ | exact VR.str _ _ | exact VR.typ _ | exact VR.blt _ | exact VR.bool _ | exact VR.none)
  k_with "mname" => (first   | (focus ((with_reducible apply Ev.nloc); (focus (kernel_rfl!)); (focus (k_extra "mget")); rotate_left; (focus (kernel_rfl))))   | (focus ((with_reducible apply Ev.ncel); (focus (kernel_rfl!)); (focus (k_extra "mget")); rotate_left; (focus (kernel_rfl)); (focus (kernel_rfl))))   | (focus ((with_reducible apply Ev.nglob); (focus (kernel_rfl!)); (focus (k_extra "mK")); (focus (k_extra "mvr")); rotate_left; (focus (kernel_rfl))))   | (focus ((with_reducible apply Ev.nblt); (focus (kernel_rfl!)); (focus (k_extra "mK")); (focus (boot_by_name)); (focus (k_extra "mvr")); rotate_left; (focus (decide)); (focus (kernel_rfl)))))
  k_with "mcomp" => (first   | (focus ((with_reducible apply Ev.lcomp); (focus (k_extra "mcapt")); (focus (kernel_rfl!)); (focus (kernel_rfl!)); (focus (rfl)); rotate_left; (focus (kernel_rfl)); (focus (intro _; kernel_rfl)))))
  k_with "mcompA" => (first   | (focus ((with_reducible apply Ex.lassign); (focus (k_extra "mcapt")); (focus (kernel_rfl!)); (focus (kernel_rfl!)); (focus (rfl)); (focus (kernel_rfl!)); rotate_left; (focus (kernel_rfl)); (focus (kernel_rfl)); (focus (kernel_rfl)); (focus (intro _; kernel_rfl)))))
  k_with "msz" => (exact small_le rfl)
  k_with "mnea" => (first | with_reducible assumption | exact Ne.symm (by with_reducible assumption))
  k_with "mst" => (first   | with_reducible exact Store.hit   | with_reducible assumption   | (focus ((with_reducible apply Store.miss); (focus (k_extra "mnea")); (focus (k_extra "mst"))))   | (focus ((with_reducible apply Store.at_fresh); (focus (k_extra "mst")); (focus (k_extra "mst")))))
  k_with "mty" => ((focus ((with_reducible refine' TyGo.mk ?_ ?_); (focus (first | exact TyV.str | (focus ((with_reducible apply TyV.list); (focus (k_extra "mst")))))))))
  k_with "mom" => (first | (first | lia | omega) | (simp only [List.length_map, List.length_append, List.length_reverse, List.length_cons, List.length_nil, sizeLine_eq]; (first | lia | omega)) | (simp only [List.length_map, List.length_append, List.length_reverse, List.length_cons, List.length_nil, sizeLine_eq] at *; (first | lia | omega)) | (simp [sizeLine_eq] at *; (first | lia | omega)))
  k_with "msput" => (first   | with_reducible exact sput_nil   | with_reducible exact sput_hit)
  k_with "msget" => (first   | with_reducible exact sget_hit   | with_reducible assumption   | with_reducible exact sget_nil)
  k_with "mlst" => (first | (focus ((with_reducible apply LstAt.st); (focus (k_extra "mst")))) | with_reducible assumption)
  k_with "mhasty" => (first   | exact HasTy.none   | exact HasTy.bool _   | exact HasTy.int _   | exact HasTy.str _   | exact HasTy.tup _   | (focus ((with_reducible apply HasTy.list); (focus (k_extra "mlst"))))   | (focus ((with_reducible apply HasTy.sd); (focus (k_extra "mst"))))   | (focus ((with_reducible apply HasTy.id); (focus (k_extra "mst")))))
  k_with "mhasty" => (first   | exact HasTy.none   | exact HasTy.bool _   | exact HasTy.int _   | exact HasTy.str _   | exact HasTy.tup _   | (focus ((with_reducible apply HasTy.list); (focus (k_extra "mlst"))))   | (focus ((with_reducible apply HasTy.sd); (focus (k_extra "mst"))))   | (focus ((with_reducible apply HasTy.id); (focus (k_extra "mst")))))
  k_with "masg" => (first   | (focus ((with_reducible apply Asg.nloc); (focus (kernel_rfl!)); (focus (k_extra "mput")); rotate_left; (focus (kernel_rfl))))   | (focus ((with_reducible apply Asg.ncel); (focus (kernel_rfl!)); (focus (k_extra "mput")); rotate_left; (focus (kernel_rfl))))   | (focus ((with_reducible apply Asg.tup); (focus (first | assumption)); (focus (rfl)); rotate_left; (focus (kernel_rfl)); (focus (kernel_rfl))))   | (with_reducible refine Asg.sub ?_)   | (with_reducible refine Asg.attr' ?_))
  k_with "mobj" => (first   | k_extra "mname"   | ((with_reducible refine Ev.attr' ?_); k_extra "mname"; (focus ((with_reducible apply AttrWP.mk); (focus (k_extra "mst")); (focus (k_extra "mst")); (focus (k_extra "msget")); (focus (k_extra "mK")); (focus (k_extra "mK")); (focus (k_extra "mK")); (focus (k_extra "mK")); (focus ((intro _ q; cases q)))))))
  k_with "mpop" => (first   | ((focus ((with_reducible refine' Ev.bmeth F.plainAttrs_list F.slot_list_pop F.type_list_pop ?_ ?_ ?_ ?_ ?_); rotate_left; (focus (kernel_rfl)); (focus (kernel_rfl)); (focus (kernel_rfl)); (focus (kernel_rfl)))); k_extra "mobj"; k_extra "mty")   | ((focus ((with_reducible refine' Ev.bmeth F.plainAttrs_dict F.slot_dict_pop F.type_dict_pop ?_ ?_ ?_ ?_ ?_); rotate_left; (focus (kernel_rfl)); (focus (kernel_rfl)); (focus (kernel_rfl)); (focus (kernel_rfl)))); k_extra "mobj"; k_extra "mty"))
  k_with "mmeth" => (first   | k_extra "mpop"   | (focus ((with_reducible refine' Ev.bmeth F.plainAttrs_list F.slot_list_append F.type_list_append ?_ ?_ ?_ ?_ ?_); rotate_left; (focus (kernel_rfl)); (focus (kernel_rfl)); (focus (kernel_rfl)); (focus (kernel_rfl))))   | (focus ((with_reducible refine' Ev.bmeth F.plainAttrs_list F.slot_list_remove F.type_list_remove ?_ ?_ ?_ ?_ ?_); rotate_left; (focus (kernel_rfl)); (focus (kernel_rfl)); (focus (kernel_rfl)); (focus (kernel_rfl))))   | (focus ((with_reducible refine' Ev.bmeth F.plainAttrs_list F.slot_list_clear F.type_list_clear ?_ ?_ ?_ ?_ ?_); rotate_left; (focus (kernel_rfl)); (focus (kernel_rfl)); (focus (kernel_rfl)); (focus (kernel_rfl))))   | (focus ((with_reducible refine' Ev.bmeth F.plainAttrs_list F.slot_list_reverse F.type_list_reverse ?_ ?_ ?_ ?_ ?_); rotate_left; (focus (kernel_rfl)); (focus (kernel_rfl)); (focus (kernel_rfl)); (focus (kernel_rfl))))   | (focus ((with_reducible refine' Ev.bmeth F.plainAttrs_str F.slot_str_join F.type_str_join ?_ ?_ ?_ ?_ ?_); rotate_left; (focus (kernel_rfl)); (focus (kernel_rfl)); (focus (kernel_rfl)); (focus (kernel_rfl))))   | (focus ((with_reducible refine' Ev.bmeth F.plainAttrs_list F.slot_list_insert F.type_list_insert ?_ ?_ ?_ ?_ ?_); rotate_left; (focus (kernel_rfl)); (focus (kernel_rfl)); (focus (kernel_rfl)); (focus (kernel_rfl))))   | (focus ((with_reducible refine' Ev.bmeth F.plainAttrs_list F.slot_list_index F.type_list_index ?_ ?_ ?_ ?_ ?_); rotate_left; (focus (kernel_rfl)); (focus (kernel_rfl)); (focus (kernel_rfl)); (focus (kernel_rfl))))   | (focus ((with_reducible refine' Ev.bmeth F.plainAttrs_list F.slot_list_count F.type_list_count ?_ ?_ ?_ ?_ ?_); rotate_left; (focus (kernel_rfl)); (focus (kernel_rfl)); (focus (kernel_rfl)); (focus (kernel_rfl))))   | (focus ((with_reducible refine' Ev.bmeth F.plainAttrs_str F.slot_str_upper F.type_str_upper ?_ ?_ ?_ ?_ ?_); rotate_left; (focus (kernel_rfl)); (focus (kernel_rfl)); (focus (kernel_rfl)); (focus (kernel_rfl)))))
  k_with "mcall" => (first   | (with_reducible refine Ev.callR ?_; k_extra "mname"; refine' ⟨_, rfl, (by k_extra "mK"), ?_⟩)   | (with_reducible refine Ev.callB ?_; k_extra "mname"; first | refine' ⟨_, .inl ⟨rfl, ?_⟩⟩ | refine' ⟨_, .inr ⟨rfl, ?_⟩⟩))
  k_with "mev" => (first   | (focus ((with_reducible show Ev _ _ _ (.Name _ _) _ _ _ _); first | k_extra "mname"))   | (with_reducible refine Ev.cint ?_)   | (with_reducible refine Ev.cstr ?_)   | (with_reducible refine Ev.cbool ?_)   | (with_reducible refine Ev.cnone ?_)   | (with_reducible refine Ev.bin ?_)   | (with_reducible refine Ev.cmp ?_)   | (with_reducible refine Ev.slice ?_)   | (with_reducible refine Ev.sub ?_)   | (with_reducible refine Ev.attr' ?_)   | (with_reducible refine Ev.tuple ?_)   | (focus ((with_reducible show Ev _ _ _ (.Call _ _ [] _) _ _ _ _); first | k_extra "mmeth" | k_extra "mcall"))   | (with_reducible refine Ev.un ?_)   | (with_reducible refine Ev.chain ?_)   | (with_reducible refine Ev.boolop ?_)   | (with_reducible refine Ev.list ?_)   | (focus ((with_reducible show Ev _ _ _ (.ListComp _ _ _ _) _ _ _ _); first | k_extra "mcomp"))   | (focus ((with_reducible show Ev _ _ _ (.Dict _ _ _) _ _ _ _); first | k_extra "mdict")))
  k_with "mex" => (first   | (with_reducible refine Ex.ret ?_)   | (with_reducible refine Ex.ite ?_)   | (with_reducible refine Ex.expr ?_)   | (focus ((with_reducible show Ex _ _ _ (.Assign [_] (.ListComp _ _ _ _) _) _ _ _ _); first | k_extra "mcompA"))   | (with_reducible refine Ex.assign ?_)   | (focus ((with_reducible apply Ex.for); rotate_left; (focus (intro _; kernel_rfl)))))
  k_with "m" => (first   | (focus ((with_reducible show Ev _ _ _ _ _ _ _ _); first | k_extra "mev"))   | (focus ((with_reducible show Exs _ _ _ _ _ _ _ _); first | (with_reducible refine Exs.cons ?_) | (with_reducible refine Exs.nil ?_)))   | (focus ((with_reducible show Then _ _ _ _ _ _ _ _ _); first | (with_reducible refine Then.next ?_) | (with_reducible refine Then.ret ?_)))   | (focus ((with_reducible show Ags _ _ _ _ _ _ _ _ _); first | (with_reducible refine Ags.cons ?_) | (with_reducible refine Ags.nil ?_)))   | (focus ((with_reducible show CmpWP _ _ _ _ _ _ _ _); first | (with_reducible refine CmpWP.eq_int ?_) | (with_reducible refine CmpWP.ne_int ?_) | (with_reducible refine CmpWP.lt_int ?_) | (with_reducible refine CmpWP.le_int ?_) | (with_reducible refine CmpWP.gt_int ?_) | (with_reducible refine CmpWP.ge_int ?_) | (with_reducible refine CmpWP.eq_str ?_) | (with_reducible refine CmpWP.ne_str ?_) | (with_reducible refine CmpWP.inStr ?_) | (with_reducible refine CmpWP.isNone ?_) | (with_reducible refine CmpWP.isB ?_) | (with_reducible refine CmpWP.isNotB ?_)))   | (focus ((with_reducible show Tst _ _ _ _ _ _ _ _); first | (with_reducible refine Tst.cmp ?_) | (with_reducible refine Tst.not ?_) | (with_reducible refine Tst.boolop ?_) | (with_reducible refine Tst.chain ?_) | (with_reducible refine Tst.val ?_)))   | (focus ((with_reducible show Ex _ _ _ _ _ _ _ _); first | k_extra "mex"))   | (focus ((with_reducible show Asg _ _ _ _ _ _ _ _ _); first | k_extra "masg"))   | (focus ((with_reducible show BinWP _ _ _ _ _ _ _ _); first | (with_reducible refine BinWP.add_int ?_) | (with_reducible refine BinWP.sub_int ?_) | (focus ((with_reducible apply BinWP.mul_int); rotate_left; (focus (first | exact intMul_l (by decide) (by decide) | exact intMul_r (by decide) (by decide) | exact intMul_l (by (first | lia | omega)) (by (first | lia | omega)) | exact intMul_r (by (first | lia | omega)) (by (first | lia | omega)))))) | (focus ((with_reducible apply BinWP.fmod_int); (focus (decide)))) | (focus ((with_reducible apply BinWP.fdiv_int); (focus (decide)); (focus (decide))))))   | (focus ((with_reducible show TruWP _ _ _ _ _ _); first | (with_reducible refine TruWP.bool ?_)))   | (focus ((with_reducible show ItemWP _ _ _ _ _ _ _); first | (with_reducible refine ItemWP.tup0 ?_) | (with_reducible refine ItemWP.tup1 ?_) | (with_reducible refine ItemWP.tup2 ?_) | (with_reducible refine ItemWP.tup3 ?_) | (with_reducible refine ItemWP.tup4 ?_)))   | (focus ((with_reducible show CallWP _ _ _ _ _ _ _); first | (focus ((with_reducible apply CallWP.isiLT); (focus (k_extra "mhasty")); (focus (first | exact Or.inl rfl | exact Or.inr rfl)))) | (focus ((with_reducible apply isi_t); (focus (k_extra "mhasty")); (focus (decide)); (focus (rfl)))) | (focus ((with_reducible apply CallWP.append); (focus (k_extra "mst")); (focus (k_extra "mom")))) | (focus ((with_reducible apply BltWP.len_list); (focus (k_extra "mlst")); (focus (k_extra "mom")))) | (focus ((with_reducible apply CallWP.len_tup); (focus (k_extra "mom")))) | (focus ((with_reducible apply CallWP.listOf); (focus (k_extra "mlst")); (focus (k_extra "mom")))) | (with_reducible refine CallWP.range1 ?_)))   | (focus ((with_reducible show LpQ _ _ _ _ _ _); first | (with_reducible refine LpQ.n ?_) | (with_reducible refine LpQ.r ?_)))   | (focus ((with_reducible show if _ = true then _ else _); first | (focus ((with_reducible apply Br.t); (focus (rfl)))) | (focus ((with_reducible apply Br.f); (focus (rfl)))) | (focus ((with_reducible apply Br.t); (focus (decide +kernel)))) | (focus ((with_reducible apply Br.f); (focus (decide +kernel)))) | (focus ((with_reducible apply Br.t); (focus ((simp; done))))) | (focus ((with_reducible apply Br.f); (focus ((simp; done)))))))   | (with_reducible refine AllT.and_cons ?_)   | (with_reducible refine AllT.or_cons ?_)   | (with_reducible refine AllT.and_nil ?_)   | (with_reducible refine AllT.or_nil ?_)   | (with_reducible refine BoolE.one ?_)   | (with_reducible refine BoolE.and ?_)   | (with_reducible refine Ifs.nil ?_)   | (with_reducible refine UnWP.neg_int ?_)   | (with_reducible refine UnWP.not ?_)   | (with_reducible refine AsgO.cons ?_)   | (with_reducible refine AsgO.nil ?_)   | (with_reducible refine Prt.none ?_)   | (with_reducible refine Prt.some ?_)   | k_extra "mty"   | (focus ((with_reducible refine' Szs.mk ?_ ?_); (focus (k_extra "msz"))))   | (focus ((with_reducible show AttrWP _ _ _ _ _); first | (focus ((with_reducible apply AttrWP.mk); (focus (k_extra "mst")); (focus (k_extra "mst")); (focus (k_extra "msget")); (focus (k_extra "mK")); (focus (k_extra "mK")); (focus (k_extra "mK")); (focus (k_extra "mK")); (focus ((intro _ q; cases q)))))))   | (focus ((with_reducible show SAttWP _ _ _ _ _ _); first | (focus ((with_reducible apply SAttWP.mk); (focus (k_extra "mst")); (focus (k_extra "mst")); (focus (exact Nat.le_of_ble_eq_true rfl)); (focus (k_extra "mK")); (focus (k_extra "mK")); (focus (k_extra "mK")); (focus (k_extra "mK")); (focus (k_extra "msput"))))))   | (focus ((with_reducible refine' Src.enumN ?_ ?_ ?_ ?_); (focus (assumption)); rotate_left; (focus (kernel_rfl)); (focus (kernel_rfl))))   | (with_reducible refine Src.of ?_)   | (focus ((with_reducible refine' Eqs.mk ?_ ?_); (focus (rfl)))))
  k_with "mdef0" => (refine' CallWP.def0  (by k_extra "mK") (by k_extra "mK") (by assumption) (by with_unfolding_all rfl) (by decide +kernel) (by kernel_rfl!) (by kernel_rfl!) (by rfl) (by rfl) (by rfl) ?_)
  k_with "mdef1" => (refine' CallWP.def1 _ (by k_extra "mK") (by k_extra "mK") (by assumption) (by intro _; with_unfolding_all rfl) (by decide +kernel) (by kernel_rfl!) (by kernel_rfl!) (by rfl) (by rfl) (by rfl) ?_)
  k_with "mdef2" => (refine' CallWP.def2 _ _ (by k_extra "mK") (by k_extra "mK") (by assumption) (by intro _ _; with_unfolding_all rfl) (by decide +kernel) (by kernel_rfl!) (by kernel_rfl!) (by rfl) (by rfl) (by rfl) ?_)
  k_with "mdef3" => (refine' CallWP.def3 _ _ _ (by k_extra "mK") (by k_extra "mK") (by assumption) (by intro _ _ _; with_unfolding_all rfl) (by decide +kernel) (by kernel_rfl!) (by kernel_rfl!) (by rfl) (by rfl) (by rfl) ?_)
  k_with "mdef4" => (refine' CallWP.def4 _ _ _ _ (by k_extra "mK") (by k_extra "mK") (by assumption) (by intro _ _ _ _; with_unfolding_all rfl) (by decide +kernel) (by kernel_rfl!) (by kernel_rfl!) (by rfl) (by rfl) (by rfl) ?_)
  k_with "mdef5" => (refine' CallWP.def5 _ _ _ _ _ (by k_extra "mK") (by k_extra "mK") (by assumption) (by intro _ _ _ _ _; with_unfolding_all rfl) (by decide +kernel) (by kernel_rfl!) (by kernel_rfl!) (by rfl) (by rfl) (by rfl) ?_)
  k_with "mdef6" => (refine' CallWP.def6 _ _ _ _ _ _ (by k_extra "mK") (by k_extra "mK") (by assumption) (by intro _ _ _ _ _ _; with_unfolding_all rfl) (by decide +kernel) (by kernel_rfl!) (by kernel_rfl!) (by rfl) (by rfl) (by rfl) ?_)
  k_with "mdef7" => (refine' CallWP.def7 _ _ _ _ _ _ _ (by k_extra "mK") (by k_extra "mK") (by assumption) (by intro _ _ _ _ _ _ _; with_unfolding_all rfl) (by decide +kernel) (by kernel_rfl!) (by kernel_rfl!) (by rfl) (by rfl) (by rfl) ?_)
  k_with "mdefC1" => (refine' CodC.def1 _ (by k_extra "mK") (by k_extra "mK") (by assumption) (by intro _; with_unfolding_all rfl) (by decide +kernel) (by kernel_rfl!) (by kernel_rfl!) (by rfl) (by rfl) (by rfl) ?_)
  k_with "mdefC2" => (refine' CodC.def2 _ _ (by k_extra "mK") (by k_extra "mK") (by assumption) (by intro _ _; with_unfolding_all rfl) (by decide +kernel) (by kernel_rfl!) (by kernel_rfl!) (by rfl) (by rfl) (by rfl) ?_)
  k_with "mdefC3" => (refine' CodC.def3 _ _ _ (by k_extra "mK") (by k_extra "mK") (by assumption) (by intro _ _ _; with_unfolding_all rfl) (by decide +kernel) (by kernel_rfl!) (by kernel_rfl!) (by rfl) (by rfl) (by rfl) ?_)
  trivial
structure Hd where
  name : Str
  rank : Int
  hears : Str
  once : Bool
  deeds : V
def hv (h : Hd) : V := .tup [.str h.name, .int h.rank, .str h.hears, .bool h.once, h.deeds]
inductive Deed where
  | now (w : Str) | soon (w : Str) | wait (t : Int) (w : Str) | cancel (w : Str) | join (n : Str) | leave (n : Str) | hush
def Deed.v : Deed → V
  | .now w => .tup [.str (Str.ofString "now"), .str w]
  | .soon w => .tup [.str (Str.ofString "soon"), .str w]
  | .wait t w => .tup [.str (Str.ofString "wait"), .int t, .str w]
  | .cancel w => .tup [.str (Str.ofString "cancel"), .str w]
  | .join n => .tup [.str (Str.ofString "join"), .str n]
  | .leave n => .tup [.str (Str.ofString "leave"), .str n]
  | .hush => .tup [.str (Str.ofString "hush")]
structure Hn where
  name : Str
  rank : Int
  hears : Str
  once : Bool
  ds : List Deed
def Hn.hd (h : Hn) : Hd := ⟨h.name, h.rank, h.hears, h.once, .tup (h.ds.map Deed.v)⟩
theorem strs_any (ns : List Str) (x : Str) : ((ns.map PyData.str).any fun y => PyData.eqv y (.str x)) = ns.contains x := by
  rw [Bool.eq_iff_iff]
  simp [PyData.eqv]
theorem CmpWP.inStrs {l : Addr} {ns : List Str} {x : Str} {Q : V → Store → Prop} (hu : A.units < 9000) (hl : σ l = some (.list (ns.map V.str))) (hx : PyData.strOk x = true) (hn : ∀ n ∈ ns, PyData.strOk n = true) (h : Q (.bool (ns.contains x)) σ) : CmpWP C A .In (.str x) (.ref l) σ Q X := by
  refine CmpWP.inL (ds := ns.map PyData.str) (.inl hl) (.str _) (DRs.map fun _ _ => .str _) (by simpa [PyData.canLay0] using hx) (canLayAll_map fun y hy => by simpa [PyData.canLay0] using hn y hy) (by simp only [PyData.depth, cLine]; (first | lia | omega)) ?_
  rw [strs_any]; exact h
theorem CmpWP.notInStrs {l : Addr} {ns : List Str} {x : Str} {Q : V → Store → Prop} (hu : A.units < 9000) (hl : σ l = some (.list (ns.map V.str))) (hx : PyData.strOk x = true) (hn : ∀ n ∈ ns, PyData.strOk n = true) (h : Q (.bool (!ns.contains x)) σ) : CmpWP C A .NotIn (.str x) (.ref l) σ Q X := by
  refine CmpWP.notInL (ds := ns.map PyData.str) (.inl hl) (.str _) (DRs.map fun _ _ => .str _) (by simpa [PyData.canLay0] using hx) (canLayAll_map fun y hy => by simpa [PyData.canLay0] using hn y hy) (by simp only [PyData.depth, cLine]; (first | lia | omega)) ?_
  rw [strs_any]; exact h
theorem CmpWP.inTS {x : Str} {ns : List Str} {Q : V → Store → Prop} (hu : A.units < 9000) (hx : PyData.strOk x = true) (hn : ∀ n ∈ ns, PyData.strOk n = true) (h : Q (.bool (ns.contains x)) σ) : CmpWP C A .In (.str x) (.tup (ns.map V.str)) σ Q X := by
  refine CmpWP.inT (d := .str x) (ds := ns.map PyData.str) (.str _) (DRs.map fun _ _ => .str _) (by simpa [PyData.canLay0] using hx) (canLayAll_map fun y hy => by simpa [PyData.canLay0] using hn y hy) (by
    have e : PyData.depthAll (ns.map PyData.str) ≤ 1 := depthAll_map fun y hy => by simp [PyData.depth]
    simp only [PyData.depth, cLine]; (first | lia | omega)) ?_
  rw [strs_any]; exact h
theorem c_whole (hK : C.K = KL C.w.params) {x : V} {t : Ty} {Q : V → Store → Prop} (hr : A.depth < recursionLimit) (ht : HasTy C σ x t) (h : Q (.bool (isiB t "int" && !isiB t "bool")) σ) : CallWP C A (.ref 101) [x] σ Q X := by
  k_extra "mdef1"
  intro L A' a1 a2 a3
  repeat k_extra "m"
  refine isi_t ht (by decide) rfl ?_
  k_extra "m"
  cases q : isiB t "int" with
  | false =>
    rw [q] at h
    repeat k_extra "m"
    exact h
  | true =>
    rw [q] at h
    repeat k_extra "m"
    refine isi_t ht (by decide) rfl ?_
    repeat k_extra "m"
    exact h
def okS (x : Str) : Bool := (x.cps.toList.map fun c => inS (Str.ofString "abcdefghijklmnopqrstuvwxyz") ⟨#[c]⟩).all id
def isW (x : Str) : Bool := (decide (1 ≤ x.length) && decide (x.length ≤ 12)) && okS x
def inAbc : V → V
  | .str c => .bool (inS (Str.ofString "abcdefghijklmnopqrstuvwxyz") c)
  | _ => .none
theorem signs_map {x : Str} : ([] : List V) ++ List.map inAbc (List.filter (fun _ => true) (signsV x)) = (x.cps.toList.map fun c => inS (Str.ofString "abcdefghijklmnopqrstuvwxyz") ⟨#[c]⟩).map V.bool := by
  rw [List.nil_append, List.filter_eq_self.mpr (fun _ _ => rfl), signsV, List.map_map, List.map_map]; rfl
theorem c_isw (hK : C.K = KL C.w.params) {x : Str} {Q : V → Store → Prop} (hr : A.depth < recursionLimit) (hh : A.handled = none) (hz : x.length ≤ 1000) (h : ∀ σ', Grow σ σ' → Q (.bool (isW x)) σ') : CallWP C A (.ref 106) [.str x] σ Q X := by
  k_extra "mdef1"
  intro L A' a1 a2 a3
  have hh' : A'.handled = none := a1.trans hh
  repeat k_extra "m"
  refine CallWP.len_str (by (first | lia | omega)) ?_
  repeat k_extra "m"
  by_cases q1 : 1 ≤ x.length
  · refine Br.t (by simp; (first | lia | omega)) ?_
    repeat k_extra "m"
    by_cases q2 : x.length ≤ 12
    · have e : isW x = okS x := by simp [isW, q1, q2]
      rw [e] at h
      refine Br.f (by simp; (first | lia | omega)) ?_
      repeat k_extra "m"
      refine ⟨_, _, ItV.str hh', fun L' => ?_⟩
      refine CmpL.pure (fun _ => true) inAbc trivial _ _ ?_ ?_ (by simp [signsV, sizeLine_eq]; simp only [Str.length] at hz; (first | lia | omega)) ?_
      · intro y hy Q hQ
        repeat k_extra "m"
        exact hQ
      · intro y hy _ Q hQ
        obtain ⟨c, hc, rfl⟩ := List.mem_map.mp hy
        repeat k_extra "m"
        exact hQ
      intro a ha
      rw [signs_map]
      repeat k_extra "m"
      refine CallWP.all hh' (.inl Store.hit) ?_
      repeat k_extra "m"
      exact h _ (Grow.rfl'.fresh ha)
    · have e : isW x = false := by simp [isW, q2]
      rw [e] at h
      refine Br.t (by simp; (first | lia | omega)) ?_
      repeat k_extra "m"
      exact h _ Grow.rfl'
  · have e : isW x = false := by simp [isW, q1]
    rw [e] at h
    refine Br.f (by simp; (first | lia | omega)) ?_
    repeat k_extra "m"
    exact h _ Grow.rfl'
def Deed.Good : Deed → Prop
  | .now w | .soon w | .cancel w | .join w | .leave w => isW w = true
  | .wait t w => 0 ≤ t ∧ t ≤ 1000000000 ∧ isW w = true
  | .hush => True
theorem isW_len {x : Str} (h : isW x = true) : x.length ≤ 12 := by
  unfold isW at h
  simp only [Bool.and_eq_true, decide_eq_true_eq] at h
  exact h.1.2
abbrev withAWord : List Str := [Str.ofString "now", Str.ofString "soon", Str.ofString "cancel", Str.ofString "join", Str.ofString "leave"]
/-- a handler that stands well; its deeds are a list or a tuple -/
structure Hn.Good (h : Hn) : Prop where
  name : isW h.name = true
  hears : h.hears = Str.ofString "" ∨ isW h.hears = true
  len : h.ds.length ≤ 30
  ds : ∀ d ∈ h.ds, d.Good
/-- how a handler lies as it is told: x holds its deeds -/
def Hn.tv (h : Hn) (x : V) : V := .tup [.str h.name, .int h.rank, .str h.hears, .bool h.once, x]

/- law 04: what is a word, a whole number, a deed, a handler: of any value -/
theorem LstAt.grow {σ' : Store} {l : Addr} {xs : List V} (h : LstAt C σ l xs) (g : Grow σ σ') : LstAt C σ' l xs := h.imp (g _ _) id
theorem HasTy.grow {σ' : Store} {v : V} {t : Ty} (h : HasTy C σ v t) (g : Grow σ σ') : HasTy C σ' v t := by
  cases h with
  | none => exact .none
  | bool b => exact .bool b
  | int i => exact .int i
  | str x => exact .str x
  | tup xs => exact .tup xs
  | list h => exact .list (h.grow g)
  | sd h => exact .sd (g _ _ h)
  | id h => exact .id (g _ _ h)
/-- is_word(v) is b -/
def WV (C : Cx) (σ : Store) (v : V) (b : Bool) : Prop := (∃ x, v = .str x ∧ x.length ≤ 1000 ∧ isW x = b) ∨ (b = false ∧ ∃ t, HasTy C σ v t ∧ isiB t "str" = false)
theorem WV.grow {σ' : Store} {v : V} {b : Bool} (h : WV C σ v b) (g : Grow σ σ') : WV C σ' v b := h.imp id fun ⟨e, t, h1, h2⟩ => ⟨e, t, h1.grow g, h2⟩
theorem c_wv (hK : C.K = KL C.w.params) {v : V} {b : Bool} {Q : V → Store → Prop} (hr : A.depth < recursionLimit) (hh : A.handled = none) (w : WV C σ v b) (h : ∀ σ', Grow σ σ' → Q (.bool b) σ') : CallWP C A (.ref 106) [v] σ Q X := by
  rcases w with ⟨x, rfl, hz, rfl⟩ | ⟨rfl, t, ht, hn⟩
  · exact c_isw hK hr hh hz h
  · k_extra "mdef1"
    intro L A' a1 a2 a3
    repeat k_extra "m"
    refine isi_t ht (by decide) hn ?_
    repeat k_extra "m"
    exact h _ Grow.rfl'
/-- is_whole(v) is b -/
def IV (C : Cx) (σ : Store) (v : V) (b : Bool) : Prop := ∃ t, HasTy C σ v t ∧ (isiB t "int" && !isiB t "bool") = b
theorem IV.grow {σ' : Store} {v : V} {b : Bool} (h : IV C σ v b) (g : Grow σ σ') : IV C σ' v b := let ⟨t, h1, h2⟩ := h; ⟨t, h1.grow g, h2⟩
theorem c_iv (hK : C.K = KL C.w.params) {v : V} {b : Bool} {Q : V → Store → Prop} (hr : A.depth < recursionLimit) (w : IV C σ v b) (h : Q (.bool b) σ) : CallWP C A (.ref 101) [v] σ Q X := by
  obtain ⟨t, ht, rfl⟩ := w
  exact c_whole hK hr ht h
/-- is_deed(v) is b -/
inductive DV (C : Cx) (σ : Store) : V → Bool → Prop
  | notup {v : V} {t : Ty} : HasTy C σ v t → isiB t "tuple" = false → DV C σ v false
  | nil : DV C σ (.tup []) false
  | head {a : V} {xs : List V} {t : Ty} : HasTy C σ a t → isiB t "str" = false → xs.length ≤ 99 → DV C σ (.tup (a :: xs)) false
  | wlen {k : Str} {xs : List V} : withAWord.contains k = true → xs.length ≠ 1 → xs.length ≤ 99 → DV C σ (.tup (.str k :: xs)) false
  | word {k : Str} {a : V} {b : Bool} : withAWord.contains k = true → WV C σ a b → DV C σ (.tup [.str k, a]) b
  | tlen {xs : List V} : xs.length ≠ 2 → xs.length ≤ 99 → DV C σ (.tup (.str (Str.ofString "wait") :: xs)) false
  | tnot {a c : V} : IV C σ a false → DV C σ (.tup [.str (Str.ofString "wait"), a, c]) false
  | tlow {t : Int} {c : V} : (t < 0 ∨ 1000000000 < t) → DV C σ (.tup [.str (Str.ofString "wait"), .int t, c]) false
  | wait {t : Int} {c : V} {b : Bool} : 0 ≤ t → t ≤ 1000000000 → WV C σ c b → DV C σ (.tup [.str (Str.ofString "wait"), .int t, c]) b
  | other {k : Str} {xs : List V} : withAWord.contains k = false → k ≠ Str.ofString "wait" → PyData.strOk k = true → xs.length ≤ 99 → DV C σ (.tup (.str k :: xs)) (k == Str.ofString "hush" && xs.length == 0)
theorem DV.grow {σ' : Store} {v : V} {b : Bool} (h : DV C σ v b) (g : Grow σ σ') : DV C σ' v b := by
  cases h with
  | notup h e => exact .notup (h.grow g) e
  | nil => exact .nil
  | head h e z => exact .head (h.grow g) e z
  | wlen a b c => exact .wlen a b c
  | word a b => exact .word a (b.grow g)
  | tlen a b => exact .tlen a b
  | tnot a => exact .tnot (a.grow g)
  | tlow a => exact .tlow a
  | wait a b c => exact .wait a b (c.grow g)
  | other a b c d => exact .other a b c d
theorem withA_ok {k : Str} (hk : withAWord.contains k = true) : PyData.strOk k = true := by
  simp only [List.contains_eq_mem, decide_eq_true_eq, List.mem_cons, List.not_mem_nil, or_false] at hk
  rcases hk with rfl | rfl | rfl | rfl | rfl <;> exact strOk_ofString _
theorem c_dv (hK : C.K = KL C.w.params) {v : V} {b : Bool} {Q : V → Store → Prop} (hr : A.depth + 1 < recursionLimit) (hh : A.handled = none) (hu : A.units < 7000) (d : DV C σ v b) (h : ∀ σ', Grow σ σ' → Q (.bool b) σ') : CallWP C A (.ref 121) [v] σ Q X := by
  have hr0 : A.depth < recursionLimit := by (first | lia | omega)
  have hwait : withAWord.contains (Str.ofString "wait") = false := by decide +kernel
  have inA : ∀ {A' : Around} {σ' : Store} {k : Str} {Q' : V → Store → Prop} {X' : XP}, A'.units < 7100 → PyData.strOk k = true → Q' (.bool (withAWord.contains k)) σ' → CmpWP C A' .In (.str k) (.tup (withAWord.map V.str)) σ' Q' X' := fun u k q => CmpWP.inTS (ns := withAWord) (by (first | lia | omega)) k (by simp [withAWord, strOk_ofString]) q
  cases d with
  | notup ht e =>
    k_extra "mdef1"
    intro fL A' a1 a2 a3
    repeat k_extra "m"
    refine isi_t ht (by decide) e ?_
    repeat k_extra "m"
    exact h _ Grow.rfl'
  | nil =>
    k_extra "mdef1"
    intro fL A' a1 a2 a3
    repeat k_extra "m"
    exact h _ Grow.rfl'
  | head ht e z =>
    k_extra "mdef1"
    intro fL A' a1 a2 a3
    repeat k_extra "m"
    refine isi_t ht (by decide) e ?_
    repeat k_extra "m"
    exact h _ Grow.rfl'
  | @wlen k xs hk e z =>
    k_extra "mdef1"
    intro fL A' a1 a2 a3
    repeat k_extra "m"
    refine inA (by (first | lia | omega)) (withA_ok hk) ?_
    rw [hk]
    repeat k_extra "m"
    refine Br.f (by simp; (first | lia | omega)) ?_
    repeat k_extra "m"
    have e2 : ((((V.str k :: xs).length : Nat) : Int) == 2) = false := by rw [beq_eq_false_iff_ne, List.length_cons]; (first | lia | omega)
    show Q (.bool _) σ
    rw [e2]
    exact h _ Grow.rfl'
  | word hk w =>
    k_extra "mdef1"
    intro fL A' a1 a2 a3
    have hh' : A'.handled = none := a1.trans hh
    have hr2 : A'.depth < recursionLimit := by (first | lia | omega)
    repeat k_extra "m"
    refine inA (by (first | lia | omega)) (withA_ok hk) ?_
    rw [hk]
    repeat k_extra "m"
    refine c_wv hK hr2 hh' w fun σ' g => ?_
    repeat k_extra "m"
    exact h _ g
  | @tlen xs e z =>
    k_extra "mdef1"
    intro fL A' a1 a2 a3
    repeat k_extra "m"
    refine inA (by (first | lia | omega)) (strOk_ofString _) ?_
    rw [hwait]
    repeat k_extra "m"
    refine Br.t (by simp; (first | lia | omega)) ?_
    repeat k_extra "m"
    exact h _ Grow.rfl'
  | tnot w =>
    k_extra "mdef1"
    intro fL A' a1 a2 a3
    have hr2 : A'.depth < recursionLimit := by (first | lia | omega)
    repeat k_extra "m"
    refine inA (by (first | lia | omega)) (strOk_ofString _) ?_
    rw [hwait]
    repeat k_extra "m"
    refine c_iv hK hr2 w ?_
    repeat k_extra "m"
    exact h _ Grow.rfl'
  | @tlow t c e =>
    k_extra "mdef1"
    intro fL A' a1 a2 a3
    have hr2 : A'.depth < recursionLimit := by (first | lia | omega)
    repeat k_extra "m"
    refine inA (by (first | lia | omega)) (strOk_ofString _) ?_
    rw [hwait]
    repeat k_extra "m"
    refine c_iv hK hr2 ⟨_, .int t, rfl⟩ ?_
    repeat k_extra "m"
    by_cases q : 0 ≤ t
    · refine Br.t (by simpa using q) ?_
      repeat k_extra "m"
      refine Br.f (by simp; (first | lia | omega)) ?_
      repeat k_extra "m"
      have e2 : decide (t ≤ 1000000000) = false := by simp; (first | lia | omega)
      rw [e2]
      exact h _ Grow.rfl'
    · refine Br.f (by simpa using q) ?_
      repeat k_extra "m"
      have e2 : decide (0 ≤ t) = false := by simpa using q
      rw [e2]
      exact h _ Grow.rfl'
  | @wait t c b e1 e2 w =>
    k_extra "mdef1"
    intro fL A' a1 a2 a3
    have hh' : A'.handled = none := a1.trans hh
    have hr2 : A'.depth < recursionLimit := by (first | lia | omega)
    repeat k_extra "m"
    refine inA (by (first | lia | omega)) (strOk_ofString _) ?_
    rw [hwait]
    repeat k_extra "m"
    refine c_iv hK hr2 ⟨_, .int t, rfl⟩ ?_
    repeat k_extra "m"
    refine Br.t (by simpa using e1) ?_
    repeat k_extra "m"
    refine Br.t (by simpa using e2) ?_
    repeat k_extra "m"
    refine c_wv hK hr2 hh' w fun σ' g => ?_
    repeat k_extra "m"
    exact h _ g
  | @other k xs hk e hok z =>
    k_extra "mdef1"
    intro fL A' a1 a2 a3
    repeat k_extra "m"
    refine inA (by (first | lia | omega)) hok ?_
    rw [hk]
    repeat k_extra "m"
    refine Br.f (by simpa using e) ?_
    repeat k_extra "m"
    cases q : (k == Str.ofString "hush") with
    | false =>
      rw [q] at h
      repeat k_extra "m"
      exact h _ Grow.rfl'
    | true =>
      rw [q] at h
      repeat k_extra "m"
      have e2 : ((((V.str k :: xs).length : Nat) : Int) == 1) = (xs.length == 0) := by
        rw [List.length_cons, Bool.eq_iff_iff, beq_iff_eq, beq_iff_eq]; (first | lia | omega)
      show Q (.bool _) σ
      rw [e2]
      exact h _ Grow.rfl'
/-- what a list or a tuple holds -/
def Holds (C : Cx) (σ : Store) (v : V) (xs : List V) : Prop := (∃ l, v = .ref l ∧ σ l = some (.list xs)) ∨ v = .tup xs
theorem Holds.grow {σ' : Store} {v : V} {xs : List V} (h : Holds C σ v xs) (g : Grow σ σ') : Holds C σ' v xs := h.imp (fun ⟨l, a, b⟩ => ⟨l, a, g _ _ b⟩) id
/-- is_handler(v) is b -/
inductive HV (C : Cx) (σ : Store) : V → Bool → Prop
  | notup {v : V} {t : Ty} : HasTy C σ v t → isiB t "tuple" = false → HV C σ v false
  | len {xs : List V} : xs.length ≠ 5 → xs.length ≤ 99 → HV C σ (.tup xs) false
  | name {a b c d e : V} : WV C σ a false → HV C σ (.tup [a, b, c, d, e]) false
  | rank {a b c d e : V} : WV C σ a true → IV C σ b false → HV C σ (.tup [a, b, c, d, e]) false
  | hearsT {a b c d e : V} {t : Ty} : WV C σ a true → IV C σ b true → HasTy C σ c t → isiB t "str" = false → HV C σ (.tup [a, b, c, d, e]) false
  | hearsW {a b d e : V} {x : Str} : WV C σ a true → IV C σ b true → x ≠ Str.ofString "" → x.length ≤ 1000 → isW x = false → HV C σ (.tup [a, b, .str x, d, e]) false
  | once {a b d e : V} {x : Str} {t : Ty} : WV C σ a true → IV C σ b true → (x = Str.ofString "" ∨ isW x = true) → HasTy C σ d t → isiB t "bool" = false → HV C σ (.tup [a, b, .str x, d, e]) false
  | deedsT {a b e : V} {x : Str} {o : Bool} {t : Ty} : WV C σ a true → IV C σ b true → (x = Str.ofString "" ∨ isW x = true) → HasTy C σ e t → (t = .str ∨ t = .none) → HV C σ (.tup [a, b, .str x, .bool o, e]) false
  | deeds {a b e : V} {x : Str} {o : Bool} {ds : List (V × Bool)} : WV C σ a true → IV C σ b true → (x = Str.ofString "" ∨ isW x = true) → Holds C σ e (ds.map (·.1)) → ds.length ≤ 99 → (∀ p ∈ ds, DV C σ p.1 p.2) → HV C σ (.tup [a, b, .str x, .bool o, e]) (decide (ds.length ≤ 30) && ds.all (·.2))
theorem HV.grow {σ' : Store} {v : V} {b : Bool} (h : HV C σ v b) (g : Grow σ σ') : HV C σ' v b := by
  cases h with
  | notup h e => exact .notup (h.grow g) e
  | len a b => exact .len a b
  | name a => exact .name (a.grow g)
  | rank a b => exact .rank (a.grow g) (b.grow g)
  | hearsT a b c d => exact .hearsT (a.grow g) (b.grow g) (c.grow g) d
  | hearsW a b c d e => exact .hearsW (a.grow g) (b.grow g) c d e
  | once a b c d e => exact .once (a.grow g) (b.grow g) c (d.grow g) e
  | deedsT a b c d e => exact .deedsT (a.grow g) (b.grow g) c (d.grow g) e
  | deeds a b c d e f => exact .deeds (a.grow g) (b.grow g) c (d.grow g) e fun p hp => (f p hp).grow g

theorem c_hv2 (hK : C.K = KL C.w.params) {a b' d e : V} {x : Str} {b : Bool} {Q : V → Store → Prop} (hr : A.depth + 2 < recursionLimit) (hh : A.handled = none) (hu : A.units < 6900) (w : WV C σ a true) (i : IV C σ b' true) (hx : x = Str.ofString "" ∨ isW x = true)
    (hd : (∃ t, HasTy C σ d t ∧ isiB t "bool" = false ∧ b = false) ∨ (∃ o t, d = .bool o ∧ HasTy C σ e t ∧ (t = .str ∨ t = .none) ∧ b = false) ∨ ∃ (o : Bool) (ds : List (V × Bool)), d = .bool o ∧ Holds C σ e (ds.map (·.1)) ∧ ds.length ≤ 99 ∧ (∀ p ∈ ds, DV C σ p.1 p.2) ∧ b = (decide (ds.length ≤ 30) && ds.all (·.2)))
    (h : ∀ σ', Grow σ σ' → Q (.bool b) σ') : CallWP C A (.ref 126) [.tup [a, b', .str x, d, e]] σ Q X := by
  have hr0 : A.depth < recursionLimit := by (first | lia | omega)
  k_extra "mdef1"
  intro fL A' a1 a2 a3
  have hh' : A'.handled = none := a1.trans hh
  have hr2 : A'.depth < recursionLimit := by (first | lia | omega)
  refine Exs.cut (fun ρ σ' => ρ.get "thing" = some (.tup [a, b', .str x, d, e]) ∧ Grow σ σ') ?_ ?_
  · repeat k_extra "m"
    exact ⟨rfl, by k_extra "mget", Grow.rfl'⟩
  rintro ρ σ1 ⟨r1, g1⟩
  refine Exs.cut (fun ρ σ' => ρ.get "thing" = some (.tup [a, b', .str x, d, e]) ∧ Grow σ σ') ?_ ?_
  · repeat k_extra "m"
    refine c_wv hK hr2 hh' (w.grow g1) fun σ2 g2 => ?_
    repeat k_extra "m"
    refine c_iv hK hr2 (i.grow (g1.trans g2)) ?_
    repeat k_extra "m"
    exact ⟨rfl, by k_extra "mget", g1.trans g2⟩
  clear r1 g1 ρ σ1
  rintro ρ σ1 ⟨r1, g1⟩
  refine Exs.cut (fun ρ σ' => ρ.get "thing" = some (.tup [a, b', .str x, d, e]) ∧ Grow σ σ') ?_ ?_
  · repeat k_extra "m"
    cases hc : x != Str.ofString "" with
    | false =>
      refine Br.f rfl ?_
      repeat k_extra "m"
      exact ⟨rfl, by k_extra "mget", g1⟩
    | true =>
      have hw : isW x = true := by
        rcases hx with rfl | hx
        · simp at hc
        · exact hx
      refine Br.t rfl ?_
      repeat k_extra "m"
      refine c_isw hK hr2 hh' (by have := isW_len hw; (first | lia | omega)) fun σ2 g2 => ?_
      rw [hw]
      repeat k_extra "m"
      exact ⟨rfl, by k_extra "mget", g1.trans g2⟩
  clear r1 g1 ρ σ1
  rintro ρ σ1 ⟨r1, g1⟩
  rcases hd with ⟨t, ht, q, rfl⟩ | ⟨o, t, rfl, ht, q, rfl⟩ | ⟨o, ds, rfl, hd, hz, hD, rfl⟩
  · repeat k_extra "m"
    refine isi_t (ht.grow g1) (by decide) q ?_
    repeat k_extra "m"
    exact h _ g1
  · repeat k_extra "m"
    refine CallWP.isiLTf (ht.grow g1) q ?_
    repeat k_extra "m"
    exact h _ g1
  · have isd : ∀ {A2 : Around} {σ2 : Store} {p : V × Bool} {Q2 : V → Store → Prop} {X2 : XP}, A2.depth = A'.depth → A2.handled = none → A2.units = A'.units → Grow σ σ2 → p ∈ ds → (∀ σ', Grow σ2 σ' → Q2 (.bool p.2) σ') → CallWP C A2 (.ref 121) [p.1] σ2 Q2 X2 := by
      intro A2 σ2 p Q2 X2 b1 b2 b3 g hp hq
      exact c_dv hK (by (first | lia | omega)) b2 (by (first | lia | omega)) ((hD p hp).grow g) hq
    have fin : ∀ {σ2 : Store}, Grow σ σ2 → Q (.bool (decide (ds.length ≤ 30) && ds.all (·.2))) σ2 := fun g => h _ g
    rcases hd with ⟨l, rfl, hl⟩ | rfl
    · have hl1 := g1 _ _ hl
      repeat k_extra "m"
      by_cases q : ds.length ≤ 30
      · rw [decide_eq_true q, Bool.true_and] at fin
        refine Br.t (by simp; (first | lia | omega)) ?_
        repeat k_extra "m"
        refine ⟨_, _, ItV.list hh' (.inl hl1), fun L' => ?_⟩
        refine CmpL.inv (fun p : V × Bool => p.1) (fun ys out σ2 => ∃ done, done ++ ys = ds ∧ Grow σ1 σ2 ∧ out = (done.map (·.2)).map V.bool) ?_ ?_ _ _ _ ⟨[], rfl, Grow.rfl', rfl⟩
        · rintro p ys out σ2 ⟨done, e, g, rfl⟩
          have e2 : done.length ≤ 30 := by rw [← e] at q; simp at q; (first | lia | omega)
          repeat k_extra "m"
          refine isd rfl hh' rfl (g1.trans g) (by rw [← e]; simp) fun σ3 g3 => ?_
          exact ⟨by simp [sizeLine_eq]; (first | lia | omega), .inl (g3 _ _ (g _ _ hl1)), done ++ [p], by simpa using e, g.trans g3, by simp⟩
        · rintro out σ2 ⟨done, e, g, rfl⟩
          rw [List.append_nil] at e
          subst e
          intro c hc
          repeat k_extra "m"
          refine CallWP.all hh' (.inl Store.hit) ?_
          rw [List.all_map]
          repeat k_extra "m"
          exact fin ((g1.trans g).fresh hc)
      · rw [decide_eq_false q, Bool.false_and] at fin
        refine Br.f (by simp; (first | lia | omega)) ?_
        repeat k_extra "m"
        have e2 : decide ((((ds.map (·.1)).length : Nat) : Int) ≤ 30) = false := by rw [List.length_map]; simp; (first | lia | omega)
        show Q (.bool _) σ1
        rw [e2]
        exact fin g1
    · repeat k_extra "m"
      by_cases q : ds.length ≤ 30
      · rw [decide_eq_true q, Bool.true_and] at fin
        refine Br.t (by simp; (first | lia | omega)) ?_
        repeat k_extra "m"
        refine ⟨_, _, ItV.tup hh', fun L' => ?_⟩
        refine CmpL.inv (fun p : V × Bool => p.1) (fun ys out σ2 => ∃ done, done ++ ys = ds ∧ Grow σ1 σ2 ∧ out = (done.map (·.2)).map V.bool) ?_ ?_ _ _ _ ⟨[], rfl, Grow.rfl', rfl⟩
        · rintro p ys out σ2 ⟨done, e, g, rfl⟩
          have e2 : done.length ≤ 30 := by rw [← e] at q; simp at q; (first | lia | omega)
          repeat k_extra "m"
          refine isd rfl hh' rfl (g1.trans g) (by rw [← e]; simp) fun σ3 g3 => ?_
          exact ⟨by simp [sizeLine_eq]; (first | lia | omega), trivial, done ++ [p], by simpa using e, g.trans g3, by simp⟩
        · rintro out σ2 ⟨done, e, g, rfl⟩
          rw [List.append_nil] at e
          subst e
          intro c hc
          repeat k_extra "m"
          refine CallWP.all hh' (.inl Store.hit) ?_
          rw [List.all_map]
          repeat k_extra "m"
          exact fin ((g1.trans g).fresh hc)
      · rw [decide_eq_false q, Bool.false_and] at fin
        refine Br.f (by simp; (first | lia | omega)) ?_
        repeat k_extra "m"
        have e2 : decide ((((ds.map (·.1)).length : Nat) : Int) ≤ 30) = false := by rw [List.length_map]; simp; (first | lia | omega)
        show Q (.bool _) σ1
        rw [e2]
        exact fin g1
theorem c_hv (hK : C.K = KL C.w.params) {v : V} {b : Bool} {Q : V → Store → Prop} (hr : A.depth + 2 < recursionLimit) (hh : A.handled = none) (hu : A.units < 6900) (d : HV C σ v b) (h : ∀ σ', Grow σ σ' → Q (.bool b) σ') : CallWP C A (.ref 126) [v] σ Q X := by
  have hr0 : A.depth < recursionLimit := by (first | lia | omega)
  cases d with
  | notup ht e =>
    k_extra "mdef1"
    intro fL A' a1 a2 a3
    repeat k_extra "m"
    refine isi_t ht (by decide) e ?_
    repeat k_extra "m"
    exact h _ Grow.rfl'
  | @len xs e z =>
    k_extra "mdef1"
    intro fL A' a1 a2 a3
    repeat k_extra "m"
    refine Br.t (by simp; (first | lia | omega)) ?_
    repeat k_extra "m"
    exact h _ Grow.rfl'
  | name w =>
    k_extra "mdef1"
    intro fL A' a1 a2 a3
    have hh' : A'.handled = none := a1.trans hh
    have hr2 : A'.depth < recursionLimit := by (first | lia | omega)
    repeat k_extra "m"
    refine c_wv hK hr2 hh' w fun σ' g => ?_
    repeat k_extra "m"
    exact h _ g
  | rank w i =>
    k_extra "mdef1"
    intro fL A' a1 a2 a3
    have hh' : A'.handled = none := a1.trans hh
    have hr2 : A'.depth < recursionLimit := by (first | lia | omega)
    repeat k_extra "m"
    refine c_wv hK hr2 hh' w fun σ' g => ?_
    repeat k_extra "m"
    refine c_iv hK hr2 (i.grow g) ?_
    repeat k_extra "m"
    exact h _ g
  | hearsT w i ht e =>
    k_extra "mdef1"
    intro fL A' a1 a2 a3
    have hh' : A'.handled = none := a1.trans hh
    have hr2 : A'.depth < recursionLimit := by (first | lia | omega)
    repeat k_extra "m"
    refine c_wv hK hr2 hh' w fun σ' g => ?_
    repeat k_extra "m"
    refine c_iv hK hr2 (i.grow g) ?_
    repeat k_extra "m"
    refine isi_t (ht.grow g) (by decide) e ?_
    repeat k_extra "m"
    exact h _ g
  | @hearsW a b' d e x w i q1 q2 q3 =>
    k_extra "mdef1"
    intro fL A' a1 a2 a3
    have hh' : A'.handled = none := a1.trans hh
    have hr2 : A'.depth < recursionLimit := by (first | lia | omega)
    repeat k_extra "m"
    refine c_wv hK hr2 hh' w fun σ' g => ?_
    repeat k_extra "m"
    refine c_iv hK hr2 (i.grow g) ?_
    repeat k_extra "m"
    refine Br.t (by simpa using q1) ?_
    repeat k_extra "m"
    refine c_isw hK hr2 hh' q2 fun σ2 g2 => ?_
    rw [q3]
    repeat k_extra "m"
    exact h _ (g.trans g2)
  | @once a b' d e x t w i hx ht q => exact c_hv2 hK hr hh hu w i hx (.inl ⟨t, ht, q, rfl⟩) h
  | @deedsT a b' e x o t w i hx ht q => exact c_hv2 hK hr hh hu w i hx (.inr (.inl ⟨o, t, rfl, ht, q, rfl⟩)) h
  | @deeds a b' e x o ds w i hx hd hz hD => exact c_hv2 hK hr hh hu w i hx (.inr (.inr ⟨o, ds, rfl, hd, hz, hD, rfl⟩)) h

theorem kindOf_mkE (sc : Scope) (L : Addr) (cells : List (Str × Addr)) (q : Str) (fn : Option Addr) (cd : Value) (fr : Option Addr) (x : Str) : (mkE sc L cells q fn cd fr).kindOf x = sc.names.lookup x := rfl
/-- what is told: a value, and the handler that it is, if it is one -/
abbrev Itm := V × Option (Hn × V)
structure GoodH (C : Cx) (σ : Store) (p : Hn × V) : Prop where
  hv : HV C σ (p.1.tv p.2) true
  at_ : Holds C σ p.2 (p.1.ds.map Deed.v)
  len : p.1.ds.length ≤ 30
  name : PyData.strOk p.1.name = true
theorem GoodH.grow {σ' : Store} {p : Hn × V} (h : GoodH C σ p) (g : Grow σ σ') : GoodH C σ' p := ⟨h.hv.grow g, h.at_.grow g, h.len, h.name⟩
def ItmOk (C : Cx) (σ : Store) (z : Itm) : Prop := match z.2 with
  | none => HV C σ z.1 false
  | some p => z.1 = p.1.tv p.2 ∧ GoodH C σ p
def encI (p : Hn × V) : Itm := (p.1.tv p.2, some p)
/-- 0: all stand; 1: the first that does not is no handler; 2: has a name that was told -/
def vrd : Nat → List Str → List Itm → Nat
  | _, _, [] => 0
  | _, _, (_, none) :: _ => 1
  | i, seen, (_, some p) :: r => if 40 ≤ i then 1 else if seen.contains p.1.name then 2 else vrd (i + 1) (seen ++ [p.1.name]) r
theorem vrd_some (i : Nat) (seen : List Str) (v : V) (p : Hn × V) (r : List Itm) : vrd i seen ((v, some p) :: r) = if 40 ≤ i then 1 else if seen.contains p.1.name then 2 else vrd (i + 1) (seen ++ [p.1.name]) r := rfl
def odd (kn : List Str) : Deed → Bool
  | .join n => !kn.contains n
  | .leave n => !kn.contains n
  | _ => false
/-- the handlers that were told -/
def told (zs : List Itm) : List (Hn × V) := zs.filterMap (·.2)
theorem told_enc (ps : List (Hn × V)) : told (ps.map encI) = ps := by
  unfold told
  rw [List.filterMap_map]
  induction ps with
  | nil => rfl
  | cons p ps ih => rw [List.filterMap_cons]; exact congrArg (p :: ·) ih
theorem sput_names : ∀ {ns : List Str} {n : Str}, n ∉ ns → sput (ns.map fun n => (n, V.bool true)) n (.bool true) = (ns ++ [n]).map fun n => (n, V.bool true)
  | [], n, _ => rfl
  | k :: ns, n, h => by
    simp only [List.mem_cons, not_or] at h
    simp only [List.map_cons, List.cons_append, sput, h.1, if_false]
    exact congrArg _ (sput_names h.2)
theorem sget_names {ns : List Str} {n : Str} : (sget (ns.map fun n => (n, V.bool true)) n).isSome = ns.contains n := by
  unfold sget
  rw [Option.isSome_map, List.find?_map, Option.isSome_map, Bool.eq_iff_iff]
  simp [List.find?_isSome]
theorem r_needh (hK : C.K = KL C.w.params) (hS : SysOk C) {ll : List Env} {D : Addr} {bm : List Value} {newId B initId : String} (ON : OwnCls (Str.ofString "NoHandler") 56 bm newId C.mg C.h₀) (OT : OwnCls (Str.ofString "Twice") 68 bm newId C.mg C.h₀) (OS : OwnCls (Str.ofString "Stranger") 80 bm newId C.mg C.h₀) (FB : ExcBaseFacts B newId initId bm)
    {a : Addr} {zs : List Itm} {P : Store → Prop} {Q : V → Store → Prop} (hr : A.depth + 3 < recursionLimit) (hh : A.handled = none) (hu : A.units < 6000) (hfr : A.frames = some ll) (ha : σ a = some (.list (zs.map (·.1)))) (hz : zs.length ≤ 41) (ok : ∀ z ∈ zs, ItmOk C σ z)
    (h1 : vrd 0 [] zs = 1 → D = 56) (h2 : vrd 0 [] zs = 2 → D = 68) (h3 : vrd 0 [] zs = 0 → D = 80 ∧ ((told zs).any fun p => p.1.ds.any (odd ((told zs).map (·.1.name)))) = true) (hP : ∀ σ', Grow σ σ' → P σ') : CodX C A ll D P (.ref 133) [.ref a] σ Q := by
  have hr0 : A.depth < recursionLimit := by (first | lia | omega)
  refine' CodX.defK [Str.ofString "handlers"] (by k_extra "mK") (by k_extra "mK") (by assumption) (by intro vals hl; obtain ⟨u1, t1, rfl, h1⟩ := lenS hl; obtain rfl := List.eq_nil_of_length_eq_zero h1; with_unfolding_all rfl) (by decide +kernel) (by kernel_rfl!) (by kernel_rfl!) (by rfl) (by rfl) (by rfl) hfr ?_
  intro L A' a1 a2 a3 a4
  have hh' : A'.handled = none := a1.trans hh
  have hu' : A'.units < 9000 := by (first | lia | omega)
  rw [show List.zip [Str.ofString "handlers"] [V.ref a] = [(Str.ofString "handlers", V.ref a)] from rfl]
  refine ExsR.step (fun ρ1 σ1 => ∃ fa, Grow σ σ1 ∧ σ fa = none ∧ σ1 fa = some (.list []) ∧ ρ1.get "found" = some (.ref fa) ∧ ρ1.get "handlers" = some (.ref a)) ?_ ?_
  · repeat k_extra "m"
    intro fa hfa
    repeat k_extra "m"
    exact ⟨rfl, fa, Grow.rfl'.fresh hfa, hfa, Store.hit, by k_extra "mget", by k_extra "mget"⟩
  rintro ρ1 σ1 ⟨fa, g1, hfa, f1, r1, r2⟩
  refine ExsR.step (fun ρ2 σ2 => ∃ kn, Grow σ1 σ2 ∧ σ1 kn = none ∧ σ2 kn = some (.sd []) ∧ ρ2.get "found" = some (.ref fa) ∧ ρ2.get "handlers" = some (.ref a) ∧ ρ2.get "known" = some (.ref kn)) ?_ ?_
  · repeat k_extra "m"
    refine Ev.dict0 fun kn hkn => ?_
    repeat k_extra "m"
    exact ⟨rfl, kn, Grow.rfl'.fresh hkn, hkn, Store.hit, by k_extra "mget", by k_extra "mget", by k_extra "mget"⟩
  clear r1 r2
  rintro ρ2 σ2 ⟨kn, g2, hkn, f2, r1, r2, r3⟩
  have hkn0 : σ kn = none := g1.none hkn
  have q1 : fa ≠ kn := fun q => by rw [← q, f1] at hkn; cases hkn
  have f1' := g2 _ _ f1
  have g0 := g1.trans g2
  refine ExsR.cons (ExR.for a4 rfl ?_)
  repeat k_extra "m"
  refine ⟨a, _, rfl, .inl (g0 _ _ ha), ?_⟩
  rw [enumV_map]
  refine ForR.inv (fun p : Itm × Nat => V.tup [.int (p.2 : Int), p.1.1]) (fun xs ρ σ3 => ∃ (ps : List (Hn × V)) (rest : List Itm), zs = ps.map encI ++ rest ∧ xs = rest.zipIdx ps.length ∧ vrd 0 [] zs = vrd ps.length (ps.map (·.1.name)) rest ∧ Grow σ σ3 ∧ σ3 fa = some (.list (ps.map fun p => hv p.1.hd)) ∧ σ3 kn = some (.sd ((ps.map (·.1.name)).map fun n => (n, V.bool true))) ∧ ρ.get "found" = some (.ref fa) ∧ ρ.get "known" = some (.ref kn)) ?_ ?_ _ _ _
    ⟨[], zs, rfl, rfl, rfl, g0, f1', f2, r1, r3⟩
  · clear r1 r2 r3
    rintro ⟨⟨v, o⟩, i⟩ xs ρ σ3 ⟨ps, rest, e1, e2, e3, g3, f3, f4, r1, r3⟩
    cases rest with
    | nil => simp at e2
    | cons z rest =>
    rw [List.zipIdx_cons] at e2
    simp only [List.cons.injEq, Prod.mk.injEq] at e2
    obtain ⟨⟨rfl, rfl⟩, rfl⟩ := e2
    have hm : (v, o) ∈ zs := by rw [e1]; simp
    have hok := ok _ hm
    have hlen : ps.length < 41 := by rw [e1] at hz; simp at hz; (first | lia | omega)
    dsimp only
    repeat k_extra "m"
    refine ExsR.cons (ExR.ite ?_)
    repeat k_extra "m"
    by_cases q40 : 40 ≤ ps.length
    · have e4 : vrd 0 [] zs = 1 := by
        rw [e3]
        cases o with
        | none => rfl
        | some p => rw [vrd_some, if_pos q40]
      obtain rfl : D = 56 := h1 e4
      refine Br.t (by simp; (first | lia | omega)) ?_
      repeat k_extra "m"
      refine ExsR.cons (ExR.raise ON FB hh' ((kindOf_mkE _ _ _ _ _ _ _ _).trans (by kernel_rfl!)) rfl ?_ (by kernel_rfl) (by kernel_rfl))
      repeat k_extra "m"
      exact hP _ g3
    refine Br.f (by simp; (first | lia | omega)) ?_
    repeat k_extra "m"
    cases o with
    | none =>
      have e4 : vrd 0 [] zs = 1 := by rw [e3]; rfl
      obtain rfl : D = 56 := h1 e4
      refine c_hv hK (by (first | lia | omega)) hh' (by (first | lia | omega)) (HV.grow hok g3) fun σ4 g4 => ?_
      repeat k_extra "m"
      refine ExsR.cons (ExR.raise ON FB hh' ((kindOf_mkE _ _ _ _ _ _ _ _).trans (by kernel_rfl!)) rfl ?_ (by kernel_rfl) (by kernel_rfl))
      repeat k_extra "m"
      exact hP _ (g3.trans g4)
    | some p =>
      obtain ⟨hn, x⟩ := p
      obtain ⟨rfl, G⟩ := hok
      rw [vrd_some, if_neg q40] at e3
      refine c_hv hK (by (first | lia | omega)) hh' (by (first | lia | omega)) (G.hv.grow g3) fun σ4 g4 => ?_
      have f3' := g4 _ _ f3
      have f4' := g4 _ _ f4
      have g34 := g3.trans g4
      repeat k_extra "m"
      refine ExsR.of (Exs.nil ?_)
      simp only [Hn.tv]
      refine ExsR.cons (ExR.ite ?_)
      repeat k_extra "m"
      refine CmpWP.inSd f4' hS ?_
      rw [sget_names]
      cases hc : (ps.map (·.1.name)).contains hn.name with
      | true =>
        have e4 : vrd 0 [] zs = 2 := by rw [e3]; exact if_pos hc
        obtain rfl : D = 68 := h2 e4
        repeat k_extra "m"
        refine ExsR.cons (ExR.raise OT FB hh' ((kindOf_mkE _ _ _ _ _ _ _ _).trans (by kernel_rfl!)) rfl ?_ (by kernel_rfl) (by kernel_rfl))
        repeat k_extra "m"
        exact hP _ g34
      | false =>
        have e4 : vrd 0 [] zs = vrd (ps.length + 1) (ps.map (·.1.name) ++ [hn.name]) rest := by rw [e3]; exact if_neg (by rw [hc]; exact Bool.false_ne_true)
        have hnew : hn.name ∉ ps.map (·.1.name) := by simpa using hc
        repeat k_extra "m"
        refine ExsR.of (Exs.nil ?_)
        refine ExsR.of ?_
        repeat k_extra "m"
        refine SetWP.sd f4' (by simp [sizeLine_eq]; (first | lia | omega)) ?_
        rw [sput_names hnew]
        have g5 : Grow σ (σ4.upd kn (.sd ((ps.map (·.1.name) ++ [hn.name]).map fun n => (n, V.bool true)))) := g34.upd hkn0
        have f5 : (σ4.upd kn (.sd ((ps.map (·.1.name) ++ [hn.name]).map fun n => (n, V.bool true)))) fa = some (.list (ps.map fun p => hv p.1.hd)) := Store.miss q1 f3'
        have f6 : (σ4.upd kn (.sd ((ps.map (·.1.name) ++ [hn.name]).map fun n => (n, V.bool true)))) kn = _ := Store.hit
        have at5 := G.at_.grow g5
        have glen := G.len
        dsimp only at glen
        generalize Store.upd σ4 kn _ = σ5 at g5 f5 f6 at5 ⊢
        have tv : ∀ {Q3 : V → Store → Prop} {X3 : XP}, Q3 (.tup (hn.ds.map Deed.v)) σ5 → CallWP C A' (.type "tuple") [x] σ5 Q3 X3 := by
          intro Q3 X3 hq
          rcases at5 with ⟨l', z1, z2⟩ | z
          · dsimp only at z1 z2
            subst z1
            exact CallWP.tupOf (.inl z2) (by simp [sizeLine_eq]; (first | lia | omega)) hq
          · dsimp only at z
            subst z
            exact CallWP.tupOfTup hq
        repeat k_extra "m"
        refine tv ?_
        repeat k_extra "m"
        refine ⟨.inl ((g5.upd hfa) _ _ ha), ps ++ [(hn, x)], rest, by rw [e1]; simp [encI, Hn.tv], by simp, by simpa using e4, g5.upd hfa, by rw [Store.hit]; simp [hv, Hn.hd], by rw [Store.miss (Ne.symm q1) f6]; simp, by k_extra "mget", by k_extra "mget"⟩
  · clear r1 r2 r3
    rintro ρ σ3 ⟨ps, rest, e1, e2, e3, g3, f3, f4, r1, r3⟩
    have e5 : rest = [] := by
      cases rest with
      | nil => rfl
      | cons p r => rw [List.zipIdx_cons] at e2; cases e2
    subst e5
    rw [List.append_nil] at e1
    obtain ⟨rfl, h4⟩ := h3 e3
    rw [e1, told_enc] at h4
    show ExsR C A' _ ll _ P _ _ _ _
    refine ExsR.cons (ExR.for a4 rfl ?_)
    repeat k_extra "m"
    refine ⟨_, _, ItV.list hh' (.inl f3), ?_⟩
    refine ForR.inv (fun p : Hn × V => hv p.1.hd) (fun xs ρ σ4 => ∃ dn, dn ++ xs = ps ∧ (∀ p ∈ dn, p.1.ds.any (odd (ps.map (·.1.name))) = false) ∧ σ4 = σ3 ∧ ρ.get "known" = some (.ref kn)) ?_ ?_ _ _ _ ⟨[], rfl, (fun _ z => by cases z), rfl, r3⟩
    · clear r1 r3
      rintro ⟨hn, x⟩ xs ρ σ4 ⟨dn, d1, d2, rfl, r3⟩
      simp only [hv, Hn.hd]
      repeat k_extra "m"
      refine ExsR.cons (ExR.for a4 rfl ?_)
      repeat k_extra "m"
      refine ⟨_, _, ItV.tup hh', ?_⟩
      refine ForR.inv Deed.v (fun ds ρ σ5 => ∃ dd, dd ++ ds = hn.ds ∧ (∀ d ∈ dd, odd (ps.map (·.1.name)) d = false) ∧ σ5 = σ4 ∧ ρ.get "known" = some (.ref kn)) ?_ ?_ _ _ _ ⟨[], rfl, (fun _ z => by cases z), rfl, by k_extra "mget"⟩
      · clear r3
        rintro d ds ρ σ5 ⟨dd, d3, d4, rfl, r3⟩
        obtain ⟨k, vs, e4, e5, e6⟩ : ∃ k vs, Deed.v d = .tup (.str k :: vs) ∧ PyData.strOk k = true ∧ (([Str.ofString "join", Str.ofString "leave"].contains k = false ∧ odd (ps.map (·.1.name)) d = false) ∨ ([Str.ofString "join", Str.ofString "leave"].contains k = true ∧ ∃ n, vs = [.str n] ∧ odd (ps.map (·.1.name)) d = !(ps.map (·.1.name)).contains n)) := by
          cases d with
          | now w => exact ⟨_, _, rfl, strOk_ofString _, .inl ⟨by decide +kernel, rfl⟩⟩
          | soon w => exact ⟨_, _, rfl, strOk_ofString _, .inl ⟨by decide +kernel, rfl⟩⟩
          | wait t w => exact ⟨_, _, rfl, strOk_ofString _, .inl ⟨by decide +kernel, rfl⟩⟩
          | cancel w => exact ⟨_, _, rfl, strOk_ofString _, .inl ⟨by decide +kernel, rfl⟩⟩
          | hush => exact ⟨_, _, rfl, strOk_ofString _, .inl ⟨by decide +kernel, rfl⟩⟩
          | join n => exact ⟨_, _, rfl, strOk_ofString _, .inr ⟨by decide +kernel, n, rfl, rfl⟩⟩
          | leave n => exact ⟨_, _, rfl, strOk_ofString _, .inr ⟨by decide +kernel, n, rfl, rfl⟩⟩
        rw [e4]
        repeat k_extra "m"
        refine ExsR.cons (ExR.ite ?_)
        repeat k_extra "m"
        refine CmpWP.inTS (ns := [Str.ofString "join", Str.ofString "leave"]) (by (first | lia | omega)) e5 (by simp [strOk_ofString]) ?_
        have goon : odd (ps.map (·.1.name)) d = false → ∀ d' ∈ dd ++ [d], odd (ps.map (·.1.name)) d' = false := fun h d' hd' => by
          rcases List.mem_append.mp hd' with z | z
          · exact d4 d' z
          · rw [List.mem_singleton.mp z]; exact h
        rcases e6 with ⟨e6, e7⟩ | ⟨e6, n, rfl, e7⟩
        · rw [e6]
          repeat k_extra "m"
          refine ExsR.of (Exs.nil ?_)
          refine ExsR.of (Exs.nil ?_)
          repeat k_extra "m"
          exact ⟨trivial, dd ++ [d], by simpa using d3, goon e7, rfl, by k_extra "mget"⟩
        · rw [e6]
          repeat k_extra "m"
          refine CmpWP.notInSd f4 hS ?_
          rw [sget_names]
          cases hc : (ps.map (·.1.name)).contains n with
          | true =>
            rw [hc] at e7
            repeat k_extra "m"
            refine ExsR.of (Exs.nil ?_)
            refine ExsR.of (Exs.nil ?_)
            repeat k_extra "m"
            exact ⟨trivial, dd ++ [d], by simpa using d3, goon e7, rfl, by k_extra "mget"⟩
          | false =>
            repeat k_extra "m"
            refine ExsR.cons (ExR.raise OS FB hh' ((kindOf_mkE _ _ _ _ _ _ _ _).trans (by kernel_rfl!)) rfl ?_ (by kernel_rfl) (by kernel_rfl))
            repeat k_extra "m"
            exact hP _ g3
      · clear r3
        rintro ρ σ5 ⟨dd, d3, d4, rfl, r3⟩
        rw [List.append_nil] at d3
        show ExsR C A' _ ll _ P [] _ _ _
        refine ExsR.of (Exs.nil ?_)
        repeat k_extra "m"
        refine ⟨.inl f3, dn ++ [(hn, x)], by simpa using d1, fun p hp => ?_, rfl, by k_extra "mget"⟩
        rcases List.mem_append.mp hp with z | z
        · exact d2 p z
        · rw [List.mem_singleton.mp z, List.any_eq_false]
          intro d hd
          rw [← d3] at hd
          rw [d4 d hd]; exact Bool.false_ne_true
    · clear r1 r3
      rintro ρ σ4 ⟨dn, d1, d2, rfl, r3⟩
      rw [List.append_nil] at d1
      subst d1
      rw [List.any_eq_true] at h4
      obtain ⟨p, hp, h4⟩ := h4
      rw [d2 p hp] at h4; cases h4

theorem c_needh (hK : C.K = KL C.w.params) (hS : SysOk C) {l : Addr} {hs : List (Hn × V)} {Q : V → Store → Prop} (hr : A.depth + 3 < recursionLimit) (hh : A.handled = none) (hu : A.units < 6800) (ok : ∀ p ∈ hs, GoodH C σ p) (ndp : (hs.map (·.1.name)).Nodup) (l2 : hs.length ≤ 40) (hno : ∀ p ∈ hs, ∀ d ∈ p.1.ds, odd (hs.map (·.1.name)) d = false) (hl : LstAt C σ l (hs.map fun p => p.1.tv p.2))
    (h : ∀ a σ', Grow σ σ' → σ a = none → σ' a = some (.list ((hs.map (·.1.hd)).map hv)) → Q (.ref a) σ') : CallWP C A (.ref 133) [.ref l] σ Q X := by
  have hr0 : A.depth < recursionLimit := by (first | lia | omega)
  k_extra "mdef1"
  intro fL A' a1 a2 a3
  have hh' : A'.handled = none := a1.trans hh
  repeat k_extra "m"
  intro fa hfa
  repeat k_extra "m"
  refine Ev.dict0 fun kn hkn => ?_
  repeat k_extra "m"
  obtain ⟨q1, hkn0⟩ := Store.none_ne hkn
  have g0 : Grow σ ((σ.upd fa (.list [])).upd kn (.sd [])) := (Grow.rfl'.upd hfa).upd hkn0
  have lg : ∀ {σ1 : Store}, Grow σ σ1 → LstAt C σ1 l (hs.map fun p => p.1.tv p.2) := fun g => by
    rcases hl with z | z
    · exact .inl (g _ _ z)
    · exact .inr z
  refine ⟨l, _, rfl, lg g0, ?_⟩
  rw [enumV_map]
  refine ForL.inv (fun p : (Hn × V) × Nat => V.tup [.int (p.2 : Int), p.1.1.tv p.1.2]) (fun xs ρ σ1 => ∃ done rest, done ++ rest = hs ∧ xs = rest.zipIdx done.length ∧ Grow σ σ1 ∧ σ1 fa = some (.list ((done.map (·.1.hd)).map hv)) ∧ σ1 kn = some (.sd ((done.map (·.1.name)).map fun n => (n, V.bool true))) ∧ ρ.get "found" = some (.ref fa) ∧ ρ.get "known" = some (.ref kn)) ?_ ?_ _ _ _
    ⟨[], hs, rfl, rfl, g0, Store.miss (Ne.symm q1) Store.hit, Store.hit, by k_extra "mget", by k_extra "mget"⟩
  · rintro ⟨⟨hn, v⟩, i⟩ xs ρ σ1 ⟨done, rest, e1, e2, g1, f1, f2, r1, r2⟩
    cases rest with
    | nil => simp at e2
    | cons p rest =>
    rw [List.zipIdx_cons] at e2
    simp only [List.cons.injEq, Prod.mk.injEq] at e2
    obtain ⟨⟨rfl, rfl⟩, rfl⟩ := e2
    have hm : (hn, v) ∈ hs := by rw [← e1]; simp
    have hlen : done.length < 40 := by rw [← e1] at l2; simp at l2; (first | lia | omega)
    have hG := ok _ hm
    have hv0 := hG.at_
    have hnew : hn.name ∉ done.map (·.1.name) := by
      have nd := ndp
      rw [← e1, List.map_append, List.nodup_append] at nd
      exact fun z => nd.2.2 _ z _ (by simp) rfl
    have hds := hG.len
    dsimp only
    repeat k_extra "m"
    refine Br.f (by simp; (first | lia | omega)) ?_
    repeat k_extra "m"
    refine c_hv hK (by (first | lia | omega)) hh' (by (first | lia | omega)) (hG.hv.grow g1) fun σ2 g2 => ?_
    have f1' := g2 _ _ f1
    have f2' := g2 _ _ f2
    simp only [Hn.tv]
    repeat k_extra "m"
    refine CmpWP.inSd f2' hS ?_
    rw [sget_names]
    have hc : (done.map (·.1.name)).contains hn.name = false := by simpa using hnew
    rw [hc]
    repeat k_extra "m"
    refine SetWP.sd f2' (by simp [sizeLine_eq]; (first | lia | omega)) ?_
    rw [sput_names hnew]
    have g3 : Grow σ (σ2.upd kn (.sd ((done.map (·.1.name) ++ [hn.name]).map fun n => (n, V.bool true)))) := (g1.trans g2).upd hkn0
    have tv : ∀ {Q3 : V → Store → Prop} {X3 : XP}, Q3 (.tup (hn.ds.map Deed.v)) (σ2.upd kn (.sd ((done.map (·.1.name) ++ [hn.name]).map fun n => (n, V.bool true)))) → CallWP C A' (.type "tuple") [v] (σ2.upd kn (.sd ((done.map (·.1.name) ++ [hn.name]).map fun n => (n, V.bool true)))) Q3 X3 := by
      intro Q3 X3 hq
      rcases hv0 with ⟨l', z1, z2⟩ | z
      · dsimp only at z1 z2
        subst z1
        exact CallWP.tupOf (.inl (g3 _ _ z2)) (by dsimp only at hds; simp [sizeLine_eq]; (first | lia | omega)) hq
      · dsimp only at z
        subst z
        exact CallWP.tupOfTup hq
    have f3 : (σ2.upd kn (.sd ((done.map (·.1.name) ++ [hn.name]).map fun n => (n, V.bool true)))) fa = some (.list ((done.map (·.1.hd)).map hv)) := Store.miss (Ne.symm q1) f1'
    repeat k_extra "m"
    refine tv ?_
    repeat k_extra "m"
    refine ⟨lg (g3.upd hfa), done ++ [(hn, v)], rest, by simpa using e1, by simp, g3.upd hfa, ?_, ?_, by k_extra "mget", by k_extra "mget"⟩
    · rw [Store.hit]; simp [hv, Hn.hd]
    · rw [Store.miss q1 Store.hit]; simp
  · rintro ρ σ1 ⟨done, rest, e1, e2, g1, f1, f2, r1, r2⟩
    have e3 : rest = [] := by
      cases rest with
      | nil => rfl
      | cons p r => rw [List.zipIdx_cons] at e2; cases e2
    subst e3
    rw [List.append_nil] at e1
    subst e1
    repeat k_extra "m"
    refine ⟨_, _, ItV.list hh' (.inl f1), ?_⟩
    rw [List.map_map]
    refine ForL.inv (fun p : Hn × V => hv p.1.hd) (fun xs ρ σ2 => (∀ p ∈ xs, p ∈ done) ∧ σ2 = σ1 ∧ ρ.get "found" = some (.ref fa) ∧ ρ.get "known" = some (.ref kn)) ?_ ?_ _ _ _ ⟨fun _ z => z, rfl, r1, r2⟩
    · rintro ⟨hn, v⟩ xs ρ σ2 ⟨hsub, rfl, r1, r2⟩
      have hm := hsub _ (.head _)
      simp only [hv, Hn.hd]
      repeat k_extra "m"
      refine ⟨_, _, ItV.tup hh', ?_⟩
      refine ForL.inv Deed.v (fun ds ρ σ3 => (∀ d ∈ ds, d ∈ hn.ds) ∧ σ3 = σ2 ∧ ρ.get "found" = some (.ref fa) ∧ ρ.get "known" = some (.ref kn)) ?_ ?_ _ _ _ ⟨fun _ z => z, rfl, by k_extra "mget", by k_extra "mget"⟩
      · rintro d ds ρ σ3 ⟨hsub2, rfl, r1, r2⟩
        obtain ⟨k, vs, e4, e5, e6⟩ : ∃ k vs, Deed.v d = .tup (.str k :: vs) ∧ PyData.strOk k = true ∧ (([Str.ofString "join", Str.ofString "leave"].contains k = false) ∨ ([Str.ofString "join", Str.ofString "leave"].contains k = true ∧ ∃ n, vs = [.str n] ∧ n ∈ done.map (·.1.name))) := by
          have hd := hno _ hm d (hsub2 d (.head _))
          cases d with
          | now w => exact ⟨_, _, rfl, strOk_ofString _, .inl (by decide +kernel)⟩
          | soon w => exact ⟨_, _, rfl, strOk_ofString _, .inl (by decide +kernel)⟩
          | wait t w => exact ⟨_, _, rfl, strOk_ofString _, .inl (by decide +kernel)⟩
          | cancel w => exact ⟨_, _, rfl, strOk_ofString _, .inl (by decide +kernel)⟩
          | hush => exact ⟨_, _, rfl, strOk_ofString _, .inl (by decide +kernel)⟩
          | join n => exact ⟨_, _, rfl, strOk_ofString _, .inr ⟨by decide +kernel, n, rfl, by simpa [odd] using hd⟩⟩
          | leave n => exact ⟨_, _, rfl, strOk_ofString _, .inr ⟨by decide +kernel, n, rfl, by simpa [odd] using hd⟩⟩
        rw [e4]
        repeat k_extra "m"
        refine CmpWP.inTS (ns := [Str.ofString "join", Str.ofString "leave"]) (by (first | lia | omega)) e5 (by simp [strOk_ofString]) ?_
        rcases e6 with e6 | ⟨e6, n, rfl, hn2⟩
        · rw [e6]
          repeat k_extra "m"
          exact ⟨trivial, fun d hd => hsub2 d (.tail _ hd), rfl, by k_extra "mget", by k_extra "mget"⟩
        · rw [e6]
          repeat k_extra "m"
          refine CmpWP.notInSd f2 hS ?_
          rw [sget_names]
          have hc : (done.map (·.1.name)).contains n = true := by simpa using hn2
          rw [hc]
          repeat k_extra "m"
          exact ⟨trivial, fun d hd => hsub2 d (.tail _ hd), rfl, by k_extra "mget", by k_extra "mget"⟩
      · rintro ρ σ3 ⟨_, rfl, r1, r2⟩
        repeat k_extra "m"
        refine ⟨.inl ?_, fun p hp => hsub p (.tail _ hp), rfl, r1, r2⟩
        rw [← List.map_map]; exact f1
    · rintro ρ σ2 ⟨_, rfl, r1, r2⟩
      repeat k_extra "m"
      exact h fa _ g1 hfa f1

/- law 05: names that are told, in order -/
/-- 0: they stand; 1: the first that does not is a stranger; 2: is told twice -/
def dueV (kn : List Str) : List Str → List V → Nat
  | _, [] => 0
  | seen, .str x :: vs => if kn.contains x then if seen.contains x then 2 else dueV kn (seen ++ [x]) vs else 1
  | _, _ :: _ => 1
theorem dueV_str (kn seen : List Str) (x : Str) (vs : List V) : dueV kn seen (.str x :: vs) = if kn.contains x then if seen.contains x then 2 else dueV kn (seen ++ [x]) vs else 1 := rfl
/-- no text, and like no text -/
def OddV (σ : Store) (v : V) : Prop := v = .none ∨ (∃ i, v = .int i) ∨ (∃ xs, v = .tup xs) ∨ (∃ l xs, v = .ref l ∧ σ l = some (.list xs)) ∨ ∃ l es, v = .ref l ∧ σ l = some (.sd es)
theorem OddV.grow {σ σ' : Store} {v : V} (h : OddV σ v) (g : Grow σ σ') : OddV σ' v := by
  rcases h with h | h | h | ⟨l, xs, h, e⟩ | ⟨l, es, h, e⟩
  · exact .inl h
  · exact .inr (.inl h)
  · exact .inr (.inr (.inl h))
  · exact .inr (.inr (.inr (.inl ⟨l, xs, h, g _ _ e⟩)))
  · exact .inr (.inr (.inr (.inr ⟨l, es, h, g _ _ e⟩)))
theorem OddV.eqS {v : V} (hu : A.units < 9000) (h : OddV σ v) (n : Str) : EqS C A σ n v false := by
  rcases h with rfl | ⟨i, rfl⟩ | ⟨xs, rfl⟩ | ⟨l, xs, rfl, e⟩ | ⟨l, es, rfl, e⟩
  · exact EqS.none
  · exact EqS.int
  · exact EqS.tup hu
  · exact EqS.list hu e
  · exact EqS.dict hu e
theorem OddV.due {v : V} (h : OddV σ v) (kn seen : List Str) (vs : List V) : dueV kn seen (v :: vs) = 1 := by
  rcases h with rfl | ⟨i, rfl⟩ | ⟨xs, rfl⟩ | ⟨l, xs, rfl, e⟩ | ⟨l, es, rfl, e⟩ <;> rfl
/-- a told name: a text that can be laid, or something odd -/
def NmOk (σ : Store) (v : V) : Prop := (∃ x, v = .str x ∧ PyData.strOk x = true) ∨ OddV σ v
theorem NmOk.grow {σ σ' : Store} {v : V} (h : NmOk σ v) (g : Grow σ σ') : NmOk σ' v := by
  rcases h with h | h
  · exact .inl h
  · exact .inr (h.grow g)
def dueS : Nat → Str
  | 0 => Str.ofString "none"
  | 1 => Str.ofString "stranger"
  | _ => Str.ofString "twice"
/-- names that do not stand: need_names raises -/
theorem r_needn (hK : C.K = KL C.w.params) {l : List Env} {D : Addr} {bm : List Value} {newId B initId : String} (OS : OwnCls (Str.ofString "Stranger") 80 bm newId C.mg C.h₀) (OT : OwnCls (Str.ofString "Twice") 68 bm newId C.mg C.h₀) (FB : ExcBaseFacts B newId initId bm)
    {a m : Addr} {ts : List (Str × List V)} {vs : List V} {P : Store → Prop} {Q : V → Store → Prop} (hr : A.depth < recursionLimit) (hh : A.handled = none) (hu : A.units < 6000) (hfr : A.frames = some l)
    (ha : σ a = some (.list (ts.map fun t => V.tup (.str t.1 :: t.2)))) (hm : σ m = some (.list vs)) (ht : ts.length ≤ 200) (hz : vs.length ≤ 200) (hk : ∀ t ∈ ts, PyData.strOk t.1 = true) (hv : ∀ v ∈ vs, NmOk σ v)
    (h0 : dueV (ts.map (·.1)) [] vs ≠ 0) (h1 : dueV (ts.map (·.1)) [] vs = 1 → D = 80) (h2 : dueV (ts.map (·.1)) [] vs = 2 → D = 68) (hP : ∀ σ', Grow σ σ' → P σ') : CodX C A l D P (.ref 138) [.ref a, .ref m] σ Q := by
  refine' CodX.defK [Str.ofString "handlers", Str.ofString "names"] (by k_extra "mK") (by k_extra "mK") (by assumption) (by intro vals hl; obtain ⟨u1, t1, rfl, h1⟩ := lenS hl; obtain ⟨u2, t2, rfl, h2⟩ := lenS h1; obtain rfl := List.eq_nil_of_length_eq_zero h2; with_unfolding_all rfl) (by decide +kernel) (by kernel_rfl!) (by kernel_rfl!) (by rfl) (by rfl) (by rfl) hfr ?_
  intro L A' a1 a2 a3 a4
  have hh' : A'.handled = none := a1.trans hh
  have hu' : A'.units < 9000 := by (first | lia | omega)
  rw [show List.zip [Str.ofString "handlers", Str.ofString "names"] [V.ref a, V.ref m] = [(Str.ofString "handlers", V.ref a), (Str.ofString "names", V.ref m)] from rfl]
  refine ExsR.step (fun ρ1 σ1 => ∃ kn, Grow σ σ1 ∧ σ1 kn = some (.list ((ts.map (·.1)).map V.str)) ∧ ρ1.get "known" = some (.ref kn) ∧ ρ1.get "names" = some (.ref m)) ?_ ?_
  · repeat k_extra "m"
    refine ⟨_, _, ItV.list hh' (.inl ha), fun L' => ?_⟩
    refine CmpL.pure (fun _ => true) (fun y => match y with | .tup (x :: _) => x | _ => .none) (.inl ha) _ _ ?_ ?_ (by simp [sizeLine_eq]; (first | lia | omega)) ?_
    · intro y hy Q hQ
      repeat k_extra "m"
      exact hQ
    · intro y hy _ Q hQ
      obtain ⟨p, hp, rfl⟩ := List.mem_map.mp hy
      repeat k_extra "m"
      exact hQ
    intro kn hkn
    have e : ([] : List V) ++ List.map (fun y => match y with | .tup (x :: _) => x | _ => .none) (List.filter (fun _ => true) (ts.map fun t => V.tup (.str t.1 :: t.2))) = (ts.map (·.1)).map V.str := by
      rw [List.nil_append, List.filter_eq_self.mpr (fun _ _ => rfl), List.map_map, List.map_map]; rfl
    rw [e]
    exact ⟨rfl, kn, Grow.rfl'.fresh hkn, Store.hit, by k_extra "mget", by k_extra "mget"⟩
  rintro ρ1 σ1 ⟨kn, g1, f1, r1, r2⟩
  have hkok : ∀ n ∈ ts.map (·.1), PyData.strOk n = true := fun n hn => by
    obtain ⟨t, ht', rfl⟩ := List.mem_map.mp hn
    exact hk t ht'
  refine ExsR.step (fun ρ2 σ2 => ∃ fa, Grow σ1 σ2 ∧ σ1 fa = none ∧ σ2 fa = some (.list []) ∧ ρ2.get "known" = some (.ref kn) ∧ ρ2.get "names" = some (.ref m) ∧ ρ2.get "found" = some (.ref fa)) ?_ ?_
  · repeat k_extra "m"
    intro fa hfa
    repeat k_extra "m"
    exact ⟨rfl, fa, Grow.rfl'.fresh hfa, hfa, Store.hit, by k_extra "mget", by k_extra "mget", by k_extra "mget"⟩
  clear r1 r2
  rintro ρ2 σ2 ⟨fa, g2, hfa, f2, r1, r2, r3⟩
  have ne1 : fa ≠ kn := fun q => by rw [q, f1] at hfa; cases hfa
  have ne2 : fa ≠ m := fun q => by rw [q, g1 _ _ hm] at hfa; cases hfa
  have hfa0 : σ fa = none := by
    cases q : σ fa with
    | none => rfl
    | some o => rw [g1 _ _ q] at hfa; cases hfa
  refine ExsR.cons (ExR.for a4 rfl ?_)
  repeat k_extra "m"
  have hm2 : σ2 m = some (.list vs) := g2 _ _ (g1 _ _ hm)
  refine ⟨_, _, ItV.list hh' (.inl hm2), ?_⟩
  rw [← List.map_id vs]
  refine ForR.inv id (fun rest ρ σ3 => ∃ seen : List Str, vs = seen.map V.str ++ rest ∧ (∀ n ∈ seen, n ∈ ts.map (·.1)) ∧ dueV (ts.map (·.1)) [] vs = dueV (ts.map (·.1)) seen rest ∧ Grow σ σ3 ∧ σ3 kn = some (.list ((ts.map (·.1)).map V.str)) ∧ σ3 fa = some (.list (seen.map V.str)) ∧ ρ.get "known" = some (.ref kn) ∧ ρ.get "names" = some (.ref m) ∧ ρ.get "found" = some (.ref fa)) ?_ ?_ _ _ _ ⟨[], by simp, (fun _ h => by cases h), rfl, g1.trans g2, g2 _ _ f1, f2, r1, r2, r3⟩
  · clear r1 r2 r3
    rintro v rest ρ σ3 ⟨seen, e1, e2, e3, g3, f3, f4, r1, r2, r3⟩
    have hvm : v ∈ vs := by rw [e1]; simp
    repeat k_extra "m"
    refine ExsR.cons (ExR.ite ?_)
    repeat k_extra "m"
    rcases (hv v hvm).grow g3 with ⟨x, rfl, hx⟩ | o
    · rw [dueV_str] at e3
      refine CmpWP.notInStrs hu' f3 hx hkok ?_
      cases q1 : (ts.map (·.1)).contains x with
      | false =>
        rw [q1] at e3
        obtain rfl : D = 80 := h1 e3
        repeat k_extra "m"
        refine ExsR.cons (ExR.raise OS FB hh' ((kindOf_mkE _ _ _ _ _ _ _ _).trans (by kernel_rfl!)) rfl ?_ (by kernel_rfl) (by kernel_rfl))
        repeat k_extra "m"
        exact hP _ g3
      | true =>
        rw [q1] at e3
        repeat k_extra "m"
        refine ExsR.of (Exs.nil ?_)
        refine ExsR.cons (ExR.ite ?_)
        repeat k_extra "m"
        refine CmpWP.inStrs hu' f4 hx (fun n hn => hkok n (e2 n hn)) ?_
        cases q2 : seen.contains x with
        | true =>
          rw [q2] at e3
          obtain rfl : D = 68 := h2 e3
          repeat k_extra "m"
          refine ExsR.cons (ExR.raise OT FB hh' ((kindOf_mkE _ _ _ _ _ _ _ _).trans (by kernel_rfl!)) rfl ?_ (by kernel_rfl) (by kernel_rfl))
          repeat k_extra "m"
          exact hP _ g3
        | false =>
          rw [q2] at e3
          have hlen : seen.length ≤ 200 := by rw [e1] at hz; simp at hz; (first | lia | omega)
          repeat k_extra "m"
          refine ExsR.of (Exs.nil ?_)
          refine ExsR.of ?_
          repeat k_extra "m"
          refine ⟨.inl (by rw [List.map_id]; exact Store.miss (Ne.symm ne2) (g3 _ _ hm)), seen ++ [x], by rw [e1]; simp, fun n hn => ?_, by simpa using e3, g3.upd hfa0, Store.miss (Ne.symm ne1) f3, by rw [Store.hit]; simp, by k_extra "mget", by k_extra "mget", by k_extra "mget"⟩
          rcases List.mem_append.mp hn with hn | hn
          · exact e2 n hn
          · rw [List.mem_singleton.mp hn]; simpa using q1
    · refine CmpWP.notInOdd f3 (o.eqS hu') ?_
      rw [o.due] at e3
      obtain rfl : D = 80 := h1 e3
      repeat k_extra "m"
      refine ExsR.cons (ExR.raise OS FB hh' ((kindOf_mkE _ _ _ _ _ _ _ _).trans (by kernel_rfl!)) rfl ?_ (by kernel_rfl) (by kernel_rfl))
      repeat k_extra "m"
      exact hP _ g3
  · rintro ρ σ3 ⟨seen, e1, e2, e3, _⟩
    exact absurd e3 h0
/-- Loom(..) with names that do not stand -/
theorem r_LoomB (hK : C.K = KL C.w.params) (hS : SysOk C) {ll : List Env} {D : Addr} {bm : List Value} {newId B initId : String} (OS : OwnCls (Str.ofString "Stranger") 80 bm newId C.mg C.h₀) (OT : OwnCls (Str.ofString "Twice") 68 bm newId C.mg C.h₀) (FB : ExcBaseFacts B newId initId bm)
    {l l2 : Addr} {hs : List (Hn × V)} {vs : List V} {P : Store → Prop} {Q : V → Store → Prop} (hr : A.depth + 6 < recursionLimit) (hh : A.handled = none) (hu : A.units < 5900) (hfr : A.frames = some ll) (okh : ∀ p ∈ hs, GoodH C σ p) (ndp : (hs.map (·.1.name)).Nodup) (lh : hs.length ≤ 40) (hno : ∀ p ∈ hs, ∀ d ∈ p.1.ds, odd (hs.map (·.1.name)) d = false) (hl : σ l = some (.list (hs.map fun p => p.1.tv p.2)))
    (hl2 : σ l2 = some (.list vs)) (hz : vs.length ≤ 200) (ok : ∀ n ∈ hs.map (·.1.name), PyData.strOk n = true) (hnm : ∀ v ∈ vs, NmOk σ v)
    (h0 : dueV (hs.map (·.1.name)) [] vs ≠ 0) (h1 : dueV (hs.map (·.1.name)) [] vs = 1 → D = 80) (h2 : dueV (hs.map (·.1.name)) [] vs = 2 → D = 68) (hP : ∀ σ', Grow σ σ' → P σ') : CallX C A ll D P (.ref 302) [.ref l, .ref l2] σ Q := by
  refine CallX.cls (by k_extra "mK") (by k_extra "mK") (by k_extra "mK") hfr fun w dx A1 hw hd hne b1 b2 b3 b4 => ?_
  have hr1 : A1.depth < recursionLimit := by (first | lia | omega)
  refine' CodX.defK [Str.ofString "self", Str.ofString "handlers", Str.ofString "names"] (by k_extra "mK") (by k_extra "mK") (by assumption) (by intro vals hl; obtain ⟨u1, t1, rfl, h1⟩ := lenS hl; obtain ⟨u2, t2, rfl, h2⟩ := lenS h1; obtain ⟨u3, t3, rfl, h3⟩ := lenS h2; obtain rfl := List.eq_nil_of_length_eq_zero h3; with_unfolding_all rfl) (by decide +kernel) (by kernel_rfl!) (by kernel_rfl!) (by rfl) (by rfl) (by rfl) b4 ?_
  intro L A' a1 a2 a3 a4
  have hh' : A'.handled = none := (a1.trans b1).trans hh
  have t1 : ((σ.upd dx (.sd [])).upd w (.inst 302 dx)) w = some (.inst 302 dx) := Store.hit
  have t2 : ((σ.upd dx (.sd [])).upd w (.inst 302 dx)) dx = some (.sd []) := Store.miss (Ne.symm hne) Store.hit
  have g0 : Grow σ ((σ.upd dx (.sd [])).upd w (.inst 302 dx)) := (Grow.rfl'.upd hd).upd hw
  generalize hσ0 : (σ.upd dx (.sd [])).upd w (.inst 302 dx) = σ0 at t1 t2 g0 ⊢
  rw [show List.zip [Str.ofString "self", Str.ofString "handlers", Str.ofString "names"] [V.ref w, V.ref l, V.ref l2] = [(Str.ofString "self", V.ref w), (Str.ofString "handlers", V.ref l), (Str.ofString "names", V.ref l2)] from rfl]
  refine ExsR.step (fun ρ1 σ1 => ∃ ca, Grow σ σ1 ∧ σ1 w = some (.inst 302 dx) ∧ σ1 dx = some (.sd [("cast", .ref ca)]) ∧ σ1 ca = some (.list ((hs.map (·.1.hd)).map hv)) ∧ ρ1.get "self" = some (.ref w) ∧ ρ1.get "names" = some (.ref l2)) ?_ ?_
  · repeat k_extra "m"
    refine c_needh hK hS (by (first | lia | omega)) hh' (by (first | lia | omega)) (fun p hp => (okh p hp).grow g0) ndp lh hno (.inl (g0 _ _ hl)) fun ca σ1 g1 hca1 hca2 => ?_
    have t1' := g1 _ _ t1
    have t2' := g1 _ _ t2
    have ne1 : ca ≠ dx := fun q => by rw [q, t2] at hca1; cases hca1
    repeat k_extra "m"
    exact ⟨rfl, ca, (g0.trans g1).upd hd, Store.miss hne t1', Store.hit, Store.miss ne1 hca2, by k_extra "mget", by k_extra "mget"⟩
  rintro ρ1 σ1 ⟨ca, g1, s1, s2, s3, r1, r2⟩
  refine ExsR.cons (ExR.assign (EvR.call rfl ?_))
  repeat k_extra "m"
  refine ⟨_, rfl, by k_extra "mK", ?_⟩
  repeat k_extra "m"
  have e1 : (hs.map (·.1.hd)).map hv = (hs.map fun p => (p.1.name, [V.int p.1.rank, .str p.1.hears, .bool p.1.once, .tup (p.1.ds.map Deed.v)])).map fun t => V.tup (.str t.1 :: t.2) := by
    rw [List.map_map, List.map_map]; rfl
  have e2 : (hs.map fun p => (p.1.name, [V.int p.1.rank, .str p.1.hears, .bool p.1.once, .tup (p.1.ds.map Deed.v)])).map (·.1) = hs.map (·.1.name) := by rw [List.map_map]; rfl
  rw [e1] at s3
  refine CodX.call (r_needn hK OS OT FB (by (first | lia | omega)) hh' (by (first | lia | omega)) a4 s3 (g1 _ _ hl2) (by simp; (first | lia | omega)) hz (fun t ht => ?_) (fun v hv' => (hnm v hv').grow g1) (by rw [e2]; exact h0) (by rw [e2]; exact h1) (by rw [e2]; exact h2) fun σ' g => hP σ' (g1.trans g))
  obtain ⟨p, hp, rfl⟩ := List.mem_map.mp ht
  exact ok _ (List.mem_map_of_mem hp)
theorem ItmOk.grow {σ' : Store} {z : Itm} (h : ItmOk C σ z) (g : Grow σ σ') : ItmOk C σ' z := by
  obtain ⟨v, o⟩ := z
  cases o with
  | none => exact HV.grow h g
  | some p => exact ⟨h.1, GoodH.grow h.2 g⟩
/-- Loom(..) whose handlers do not stand -/
theorem r_LoomA (hK : C.K = KL C.w.params) (hS : SysOk C) {ll : List Env} {D : Addr} {bm : List Value} {newId B initId : String} (ON : OwnCls (Str.ofString "NoHandler") 56 bm newId C.mg C.h₀) (OT : OwnCls (Str.ofString "Twice") 68 bm newId C.mg C.h₀) (OS : OwnCls (Str.ofString "Stranger") 80 bm newId C.mg C.h₀) (FB : ExcBaseFacts B newId initId bm)
    {l l2 : Addr} {zs : List Itm} {P : Store → Prop} {Q : V → Store → Prop} (hr : A.depth + 6 < recursionLimit) (hh : A.handled = none) (hu : A.units < 5900) (hfr : A.frames = some ll) (ha : σ l = some (.list (zs.map (·.1)))) (hz : zs.length ≤ 41) (ok : ∀ z ∈ zs, ItmOk C σ z)
    (h1 : vrd 0 [] zs = 1 → D = 56) (h2 : vrd 0 [] zs = 2 → D = 68) (h3 : vrd 0 [] zs = 0 → D = 80 ∧ ((told zs).any fun p => p.1.ds.any (odd ((told zs).map (·.1.name)))) = true) (hP : ∀ σ', Grow σ σ' → P σ') : CallX C A ll D P (.ref 302) [.ref l, .ref l2] σ Q := by
  refine CallX.cls (by k_extra "mK") (by k_extra "mK") (by k_extra "mK") hfr fun w dx A1 hw hd hne b1 b2 b3 b4 => ?_
  have hr1 : A1.depth < recursionLimit := by (first | lia | omega)
  refine' CodX.defK [Str.ofString "self", Str.ofString "handlers", Str.ofString "names"] (by k_extra "mK") (by k_extra "mK") (by assumption) (by intro vals hl; obtain ⟨u1, t1, rfl, h1⟩ := lenS hl; obtain ⟨u2, t2, rfl, h2⟩ := lenS h1; obtain ⟨u3, t3, rfl, h3⟩ := lenS h2; obtain rfl := List.eq_nil_of_length_eq_zero h3; with_unfolding_all rfl) (by decide +kernel) (by kernel_rfl!) (by kernel_rfl!) (by rfl) (by rfl) (by rfl) b4 ?_
  intro L A' a1 a2 a3 a4
  have hh' : A'.handled = none := (a1.trans b1).trans hh
  have g0 : Grow σ ((σ.upd dx (.sd [])).upd w (.inst 302 dx)) := (Grow.rfl'.upd hd).upd hw
  generalize hσ0 : (σ.upd dx (.sd [])).upd w (.inst 302 dx) = σ0 at g0 ⊢
  rw [show List.zip [Str.ofString "self", Str.ofString "handlers", Str.ofString "names"] [V.ref w, V.ref l, V.ref l2] = [(Str.ofString "self", V.ref w), (Str.ofString "handlers", V.ref l), (Str.ofString "names", V.ref l2)] from rfl]
  refine ExsR.cons (ExR.assign (EvR.call rfl ?_))
  repeat k_extra "m"
  refine ⟨_, rfl, by k_extra "mK", ?_⟩
  repeat k_extra "m"
  exact CodX.call (r_needh hK hS ON OT OS FB (by (first | lia | omega)) hh' (by (first | lia | omega)) a4 (g0 _ _ ha) hz (fun z hz' => (ok z hz').grow g0) h1 h2 h3 fun σ' g => hP σ' (g0.trans g))

theorem CallWP.indexB {l : Addr} {bs : List Bool} {Q : V → Store → Prop} (hl : LstAt C σ l (bs.map V.bool)) (hx : true ∈ bs) (hz : bs.length ≤ 9000) (hu : A.units < 9000) (h : Q (.int ((bs.idxOf true : Nat) : Int)) σ) : CallWP C A (.builtin "list.index") [.ref l, .bool true] σ Q X := by
  rintro s vs S (_ | ⟨r1, _ | ⟨r2, ⟨⟩⟩⟩)
  cases r1; cases r2
  obtain ⟨items, hI, rl⟩ := hl.raw S
  have e := bools_of rl
  obtain ⟨⟨cls, dd, data, sl⟩, ho, hc, n, hd⟩ := id hI
  simp only at hc hd
  subst hc hd
  have e' : items = (bs.map Value.bool).toArray := by rw [← e]
  subst e'
  have hj := List.idxOf_lt_length_of_mem hx
  refine call_meets PySem.F.slot_list_index ⟨_, ho, rfl⟩ PySem.F.entry_list_index (PySem.F.args_list_index_2 _ _) (list_indexAt l _ n dd sl (.bool true) isT (bs.idxOf true) (by simpa using hj) (by (first | lia | omega)) (by simp [isT, List.getElem_idxOf hj]) (fun m hm hlt => ?_)) ⟨ho, fun y hy => ?_, ?_⟩
  · have := List.not_of_lt_findIdx (p := (· == true)) hlt
    simpa [isT] using this
  · have hy' : y ∈ bs.map Value.bool := by simpa using hy
    obtain ⟨b, _, rfl⟩ := List.mem_map.mp hy'
    exact eqT S hu
  · exact EP.pureT S h (.int _ _)
/-- what the law asks of an error -/
structure KindK (K : Frag) (D : Addr) (b1 b2 b3 b4 b5 : Bool) : Prop where
  kit : excKit K D = true
  k1 : kitOne K (.ref D) (.ref 44) = some b1
  k2 : kitOne K (.ref D) (.ref 56) = some b2
  k3 : kitOne K (.ref D) (.ref 68) = some b3
  k4 : kitOne K (.ref D) (.ref 80) = some b4
  k5 : kitOne K (.ref D) (.ref 92) = some b5
  kv : kitOne K (.ref D) (.type "ValueError") = some true
  ke : exmOne K (.ref D) (.ref 31) = some true
theorem kindStranger (P : Params) : KindK (KL P) 80 false false false true false :=
  ⟨by kernel_rfl, by kernel_rfl, by kernel_rfl, by kernel_rfl, by kernel_rfl, by kernel_rfl, by kernel_rfl, by kernel_rfl⟩
theorem kindTwice (P : Params) : KindK (KL P) 68 false false true false false :=
  ⟨by kernel_rfl, by kernel_rfl, by kernel_rfl, by kernel_rfl, by kernel_rfl, by kernel_rfl, by kernel_rfl, by kernel_rfl⟩
theorem kindNoHandler (P : Params) : KindK (KL P) 56 false true false false false :=
  ⟨by kernel_rfl, by kernel_rfl, by kernel_rfl, by kernel_rfl, by kernel_rfl, by kernel_rfl, by kernel_rfl, by kernel_rfl⟩
theorem c_kind (hK : C.K = KL C.w.params) {e D : Addr} {b1 b2 b3 b4 b5 : Bool} {Q : V → Store → Prop} (hr : A.depth < recursionLimit) (hu : A.units < 8000) (k : KindK C.K D b1 b2 b3 b4 b5) (h1 : ([b1, b2, b3, b4, b5] : List Bool).countP id = 1) (he : σ e = some (.exc D))
    (h : ∀ σ', Grow σ σ' → Q (.int ((([b1, b2, b3, b4, b5] : List Bool).idxOf true : Nat) : Int)) σ') : CallWP C A (.ref 367) [.ref e] σ Q X := by
  have hmem : true ∈ [b1, b2, b3, b4, b5] := by
    cases b1 <;> cases b2 <;> cases b3 <;> cases b4 <;> cases b5 <;> first | (simp; done) | cases h1
  k_extra "mdef1"
  intro L A' a1 a2 a3
  repeat k_extra "m"
  refine isi_exc he k.kit k.k1 ?_
  repeat k_extra "m"
  refine isi_exc he k.kit k.k2 ?_
  repeat k_extra "m"
  refine isi_exc he k.kit k.k3 ?_
  repeat k_extra "m"
  intro a ha
  have he1 : (σ.upd a (.list [.bool b1, .bool b2, .bool b3])) e = some (.exc D) := Store.at_fresh ha he
  have hl1 : (σ.upd a (.list [.bool b1, .bool b2, .bool b3])) a = some (.list [.bool b1, .bool b2, .bool b3]) := Store.hit
  have g1 : Grow σ (σ.upd a (.list [.bool b1, .bool b2, .bool b3])) := Grow.rfl'.fresh ha
  generalize Store.upd σ a _ = σ1 at he1 hl1 g1 ⊢
  repeat k_extra "m"
  refine isi_exc he1 k.kit k.k4 ?_
  repeat k_extra "m"
  refine isi_exc he1 k.kit k.k5 ?_
  repeat k_extra "m"
  intro b hb
  repeat k_extra "m"
  refine BinWP.cat (xs := [.bool b1, .bool b2, .bool b3]) (ys := [.bool b4, .bool b5]) (.inl (Store.at_fresh hb hl1)) (.inl Store.hit) (show 5 ≤ sizeLine by decide) ?_
  intro d hd
  have he2 := Store.at_fresh (o := .list [.bool b1, .bool b2, .bool b3, .bool b4, .bool b5]) hd (Store.at_fresh (o := .list [.bool b4, .bool b5]) hb he1)
  have hl2 : ((σ1.upd b (.list [.bool b4, .bool b5])).upd d (.list [.bool b1, .bool b2, .bool b3, .bool b4, .bool b5])) d = some (.list [.bool b1, .bool b2, .bool b3, .bool b4, .bool b5]) := Store.hit
  have g2 : Grow σ ((σ1.upd b (.list [.bool b4, .bool b5])).upd d (.list [.bool b1, .bool b2, .bool b3, .bool b4, .bool b5])) := (g1.fresh hb).fresh hd
  show Asg _ _ _ _ _ _ ((σ1.upd b (.list [.bool b4, .bool b5])).upd d (.list [.bool b1, .bool b2, .bool b3, .bool b4, .bool b5])) _ _
  generalize (σ1.upd b (.list [.bool b4, .bool b5])).upd d (.list [.bool b1, .bool b2, .bool b3, .bool b4, .bool b5]) = σ2 at he2 hl2 g2 ⊢
  repeat k_extra "m"
  refine CallWP.countB (bs := [b1, b2, b3, b4, b5]) (.inl hl2) (by (first | lia | omega)) ?_
  rw [h1]
  repeat k_extra "m"
  refine isi_excT he2 k.kit k.kv ?_
  repeat k_extra "m"
  refine CallWP.indexB (bs := [b1, b2, b3, b4, b5]) (.inl hl2) hmem (show 5 ≤ 9000 by decide) (by (first | lia | omega)) ?_
  repeat k_extra "m"
  exact h _ g2
/-- how need_handlers or Loom refuses -/
theorem f_refused (hK : C.K = KL C.w.params) (hS : SysOk C) (hlo : C.loose) {ll : List Env} {D : Addr} {b1 b2 b3 b4 b5 : Bool} {bm : List Value} {newId B initId : String} (ON : OwnCls (Str.ofString "NoHandler") 56 bm newId C.mg C.h₀) (OT : OwnCls (Str.ofString "Twice") 68 bm newId C.mg C.h₀) (OS : OwnCls (Str.ofString "Stranger") 80 bm newId C.mg C.h₀) (FB : ExcBaseFacts B newId initId bm)
    {l : Addr} {way : Int} {zs : List Itm} {Q : V → Store → Prop} (hr : A.depth + 8 < recursionLimit) (hh : A.handled = none) (hu : A.units < 5800) (hfr : A.frames = some ll) (hl : σ l = some (.list (zs.map (·.1)))) (hz : zs.length ≤ 41) (ok : ∀ z ∈ zs, ItmOk C σ z) (k : KindK C.K D b1 b2 b3 b4 b5) (hc : ([b1, b2, b3, b4, b5] : List Bool).countP id = 1)
    (hv : ((vrd 0 [] zs = 1 → D = 56) ∧ (vrd 0 [] zs = 2 → D = 68) ∧ (vrd 0 [] zs = 0 → D = 80 ∧ ((told zs).any fun p => p.1.ds.any (odd ((told zs).map (·.1.name)))) = true)) ∨
      (way = 1 ∧ D = 80 ∧ ∃ hs : List (Hn × V), zs = hs.map encI ∧ (hs.map (·.1.name)).Nodup ∧ hs.length ≤ 40 ∧ (∀ p ∈ hs, ∀ d ∈ p.1.ds, odd (hs.map (·.1.name)) d = false) ∧ (hs.map (·.1.name)).contains (Str.ofString "nobody") = false))
    {w : Str} (hw : ([V.str (Str.ofString "word"), .str (Str.ofString "handler"), .str (Str.ofString "twice"), .str (Str.ofString "stranger"), .str (Str.ofString "count"), .str (Str.ofString "other")] : List V)[([b1, b2, b3, b4, b5] : List Bool).idxOf true]? = some (.str w))
    (h : ∀ σ', Grow σ σ' → Q (.str w) σ') : CallF C A ll (.ref 374) [.ref l, .int way] σ Q X := by
  have hr1 : A.depth < recursionLimit := by (first | lia | omega)
  have hidx : ([b1, b2, b3, b4, b5] : List Bool).idxOf true ≤ 5 := List.idxOf_le_length
  refine' CallF.defK [Str.ofString "_law_handlers", Str.ofString "_law_way"] (by k_extra "mK") (by k_extra "mK") (by assumption) (by intro vals hl; obtain ⟨u1, t1, rfl, h1⟩ := lenS hl; obtain ⟨u2, t2, rfl, h2⟩ := lenS h1; obtain rfl := List.eq_nil_of_length_eq_zero h2; with_unfolding_all rfl) (by decide +kernel) (by kernel_rfl!) (by kernel_rfl!) (by rfl) (by rfl) (by rfl) hfr ?_
  intro L A' a1 a2 a3 a4
  have hh' : A'.handled = none := a1.trans hh
  rw [show List.zip [Str.ofString "_law_handlers", Str.ofString "_law_way"] [V.ref l, V.int way] = [(Str.ofString "_law_handlers", V.ref l), (Str.ofString "_law_way", V.int way)] from rfl]
  refine ExsO.try (D := D) (P := fun σ' => Grow σ σ') (E := 31) a4 rfl hlo ?_ k.ke (by k_extra "mK") ((kindOf_mkE _ _ _ _ _ _ _ _).trans (by kernel_rfl!)) rfl ((kindOf_mkE _ _ _ _ _ _ _ _).trans (by kernel_rfl!)) ?_ (by kernel_rfl) rfl
  · refine ExsR.cons (ExR.ite ?_)
    repeat k_extra "m"
    by_cases hw0 : way = 0
    · refine Br.t (by simp [hw0]) ?_
      rcases hv with ⟨v1, v2, v3⟩ | ⟨z, _⟩
      · refine ExsR.cons (ExR.expr (EvR.call rfl ?_))
        repeat k_extra "m"
        refine ⟨_, rfl, by k_extra "mK", ?_⟩
        repeat k_extra "m"
        exact CodX.call (r_needh hK hS ON OT OS FB (by (first | lia | omega)) hh' (by (first | lia | omega)) a4 hl hz ok v1 v2 v3 fun σ' g => g)
      · (first | lia | omega)
    · refine Br.f (by simp [hw0]) ?_
      refine ExsR.cons (ExR.expr (EvR.call rfl ?_))
      repeat k_extra "m"
      refine ⟨_, rfl, by k_extra "mK", ?_⟩
      repeat k_extra "m"
      intro x hx
      repeat k_extra "m"
      refine ⟨_, rfl, ?_⟩
      repeat k_extra "m"
      refine SliceWP.list (xs := [.str (Str.ofString "nobody")]) (.inl Store.hit) (show 1 ≤ sizeLine by decide) fun y hy => ?_
      have g1 : Grow σ ((σ.upd x (.list [.str (Str.ofString "nobody")])).upd y (.list (pySlice [V.str (Str.ofString "nobody")] (some (way - 1)) none))) := (Grow.rfl'.fresh hx).fresh hy
      have hy2 : ((σ.upd x (.list [.str (Str.ofString "nobody")])).upd y (.list (pySlice [V.str (Str.ofString "nobody")] (some (way - 1)) none))) y = some (.list (pySlice [V.str (Str.ofString "nobody")] (some (way - 1)) none)) := Store.hit
      generalize Store.upd _ y _ = σ1 at g1 hy2 ⊢
      repeat k_extra "m"
      rcases hv with ⟨v1, v2, v3⟩ | ⟨rfl, rfl, hs, rfl, ndp, lh, hno, hnb⟩
      · exact r_LoomA hK hS ON OT OS FB (by (first | lia | omega)) hh' (by (first | lia | omega)) a4 (g1 _ _ hl) hz (fun z hz' => (ok z hz').grow g1) v1 v2 v3 fun σ' g => g1.trans g
      · have okh : ∀ p ∈ hs, GoodH C σ p := fun p hp => (ok _ (List.mem_map_of_mem hp)).2
        rw [List.map_map] at hl
        have hy2 : σ1 y = some (.list [.str (Str.ofString "nobody")]) := hy2
        have hdue : dueV (hs.map (·.1.name)) [] [.str (Str.ofString "nobody")] = 1 := by
          rw [dueV_str, hnb]; rfl
        refine r_LoomB hK hS OS OT FB (by (first | lia | omega)) hh' (by (first | lia | omega)) a4 (fun p hp => (okh p hp).grow g1) ndp lh hno (g1 _ _ hl) hy2 (show 1 ≤ 200 by decide) (fun n hn => ?_) (fun v hv => ?_) (by rw [hdue]; decide) (fun _ => rfl) (fun z => by rw [hdue] at z; cases z) fun σ' g => g1.trans g
        · obtain ⟨p, hp, rfl⟩ := List.mem_map.mp hn
          exact (okh p hp).name
        · rw [List.mem_singleton.mp hv]; exact .inl ⟨_, rfl, strOk_ofString _⟩
  · intro e ρ1 σ1 g1 he1
    have he : (σ1.upd e (.exc D)) e = some (.exc D) := Store.hit
    have g2 : Grow σ (σ1.upd e (.exc D)) := g1.fresh he1
    generalize Store.upd σ1 e _ = σ2 at he g2 ⊢
    repeat k_extra "m"
    intro x hx
    have he2 := Store.at_fresh (o := .list [.str (Str.ofString "word"), .str (Str.ofString "handler"), .str (Str.ofString "twice"), .str (Str.ofString "stranger"), .str (Str.ofString "count"), .str (Str.ofString "other")]) hx he
    have hx2 : (σ2.upd x (.list [.str (Str.ofString "word"), .str (Str.ofString "handler"), .str (Str.ofString "twice"), .str (Str.ofString "stranger"), .str (Str.ofString "count"), .str (Str.ofString "other")])) x = some (.list [.str (Str.ofString "word"), .str (Str.ofString "handler"), .str (Str.ofString "twice"), .str (Str.ofString "stranger"), .str (Str.ofString "count"), .str (Str.ofString "other")]) := Store.hit
    have g3 : Grow σ (σ2.upd x (.list [.str (Str.ofString "word"), .str (Str.ofString "handler"), .str (Str.ofString "twice"), .str (Str.ofString "stranger"), .str (Str.ofString "count"), .str (Str.ofString "other")])) := g2.fresh hx
    generalize Store.upd σ2 x _ = σ3 at he2 hx2 g3 ⊢
    repeat k_extra "m"
    refine c_kind hK (show A'.depth < _ by (first | lia | omega)) (show A'.units < _ by (first | lia | omega)) k hc he2 fun σ4 g4 => ?_
    refine ItemWP.list (.inl (g4 _ _ hx2)) (by (first | lia | omega)) (by (first | lia | omega)) (by rw [Int.toNat_natCast]; exact hw) ?_
    repeat k_extra "m"
    exact ⟨_, rfl, fun _ => h _ (g3.trans g4)⟩

theorem c_told (hK : C.K = KL C.w.params) {l : Addr} {cs : List Int} {i : Nat} {Q : V → Store → Prop} (hr : A.depth < recursionLimit) (hh : A.handled = none) (hl : LstAt C σ l (cs.map V.int)) (hz : cs.length ≤ 1000) (hi : i ≤ 1000) (h : Q (.int (cs.getD i 0)) σ) : CallWP C A (.ref 313) [.ref l, .int i] σ Q X := by
  k_extra "mdef2"
  intro L A' a1 a2 a3
  have hh' : A'.handled = none := a1.trans hh
  repeat k_extra "m"
  by_cases q : i < cs.length
  · refine Br.f (by simp; (first | lia | omega)) ?_
    repeat k_extra "m"
    refine ItemWP.list (y := .int (cs.getD i 0)) hl (by (first | lia | omega)) (by (first | lia | omega)) (by simp [q]) ?_
    repeat k_extra "m"
    exact h
  · refine Br.t (by simp; (first | lia | omega)) ?_
    repeat k_extra "m"
    have e : cs.getD i 0 = 0 := by simp [Nat.le_of_not_lt q]
    rw [e] at h; exact h

theorem c_mixed (hK : C.K = KL C.w.params) {c k m : Int} {Q : V → Store → Prop} (hr : A.depth < recursionLimit) (hh : A.handled = none) (hm : 0 < m) (h : ∀ (r : Int) (σ' : Store), Grow σ σ' → 0 ≤ r → r < m → Q (.int r) σ') : CallWP C A (.ref 320) [.int c, .int k, .int m] σ Q X := by
  k_extra "mdef3"
  intro L A' a1 a2 a3
  have hh' : A'.handled = none := a1.trans hh
  repeat k_extra "m"
  intro a ha
  repeat k_extra "m"
  have b0 : 0 ≤ k.fmod 7 := Int.fmod_nonneg_of_pos _ (by (first | lia | omega))
  have b1 : k.fmod 7 < 7 := Int.fmod_lt_of_pos _ (by (first | lia | omega))
  have pr : ∀ j : Nat, j < 7 → ∃ p : Int, (([10007, 20011, 30011, 40009, 50021, 60013, 70001] : List Int).map V.int)[j]? = some (.int p) ∧ p ≠ 0 := fun j hj =>
    ⟨([10007, 20011, 30011, 40009, 50021, 60013, 70001] : List Int)[j]'hj, by rw [List.getElem?_map, List.getElem?_eq_getElem hj]; rfl, (by decide : ∀ x ∈ ([10007, 20011, 30011, 40009, 50021, 60013, 70001] : List Int), x ≠ 0) _ (List.getElem_mem hj)⟩
  obtain ⟨p, hp, hp0⟩ := pr (k.fmod 7).toNat (by (first | lia | omega))
  refine ItemWP.list (y := .int p) (.inl Store.hit) b0 (by (first | lia | omega)) hp ?_
  refine BinWP.fmod_int hp0 ?_
  repeat k_extra "m"
  refine BinWP.fmod_int (by (first | lia | omega)) ?_
  repeat k_extra "m"
  exact h _ _ (Grow.rfl'.fresh ha) (Int.fmod_nonneg_of_pos _ hm) (Int.fmod_lt_of_pos _ hm)

def letS (j : Nat) : Str := ⟨#[97 + j]⟩
theorem let26 : ∀ j, j < 26 → (Str.ofString "abcdefghijklmnopqrstuvwxyz").cps[j]? = some (97 + j) := by decide +kernel
theorem len26 : (Str.ofString "abcdefghijklmnopqrstuvwxyz").length = 26 := by decide +kernel
theorem ItemWP.letter {i : Int} {Q : V → Store → Prop} (h0 : 0 ≤ i) (h1 : i < 26) (h : Q (.str (letS i.toNat)) σ) : ItemWP C A (.str (Str.ofString "abcdefghijklmnopqrstuvwxyz")) (.int i) σ Q X := by
  refine ItemWP.str (by (first | lia | omega)) (by (first | lia | omega)) ?_ h
  rw [len26, seqIndex_of h0 (by (first | lia | omega))]
  exact let26 _ (by (first | lia | omega))
theorem letS_len (j : Nat) : (letS j).length = 1 := rfl
theorem str_len_append (x y : Str) : (x ++ y).length = x.length + y.length := by
  show (x.cps ++ y.cps).size = _
  simp [Str.length]
theorem inS_abc : ∀ j, j < 26 → inS (Str.ofString "abcdefghijklmnopqrstuvwxyz") ⟨#[97 + j]⟩ = true := by decide +kernel
theorem okS_of {x : Str} (h : ∀ c ∈ x.cps.toList, 97 ≤ c ∧ c < 123) : okS x = true := by
  unfold okS
  rw [List.all_map, List.all_eq_true]
  intro c hc
  obtain ⟨a, b⟩ := h c hc
  obtain ⟨j, rfl⟩ : ∃ j, c = 97 + j := ⟨c - 97, by (first | lia | omega)⟩
  exact inS_abc j (by (first | lia | omega))
abbrev aheadS : Str := Str.ofString "zyxwvutsrq"
abbrev behindS : Str := Str.ofString "abcdefghij"
theorem ahead_len : aheadS.length = 10 := by decide +kernel
theorem behind_len : behindS.length = 10 := by decide +kernel
theorem ahead_ok : ∀ c ∈ aheadS.cps.toList, 97 ≤ c ∧ c < 123 := by decide +kernel
theorem behind_ok : ∀ c ∈ behindS.cps.toList, 97 ≤ c ∧ c < 123 := by decide +kernel
/-- the name of handler k of c -/
def nameN (c k : Nat) : Str := Txt.slice (Txt.slice aheadS none (some ((c * 7 % 11 : Nat) : Int)) ++ (letS (k * 7 % 26) ++ letS (k / 26)) ++ Txt.slice behindS none (some ((c * 5 % 11 : Nat) : Int))) none (some ((12 : Nat) : Int))
theorem strLen (x : Str) : x.length = x.cps.toList.length := by simp [Str.length]
theorem slice_take (x : Str) (k : Nat) : (Txt.slice x none (some (k : Int))).cps.toList = x.cps.toList.take k := by
  by_cases h : k ≤ x.length
  · exact slice_upto x k h
  · have e : Builtin.Str.strSliceIndices none (some (k : Int)) 1 x.length = (List.range x.length).map fun i => 0 + i := by
      unfold Builtin.Str.strSliceIndices
      have h1 : ¬ ((k : Int) < 0) := by (first | lia | omega)
      have h2 : max 0 (min (k : Int) (x.length : Int)) = ((x.length : Nat) : Int) := by (first | lia | omega)
      simp only [h1, if_false, show (1 : Int) > 0 by decide, if_true, h2]
      have := sliceRange_one 0 x.length
      simpa using this
    rw [slice_cps x none (some (k : Int)) 0 x.length (by (first | lia | omega)) e, List.drop_zero, strLen, List.take_of_length_le (Nat.le_refl _), List.take_of_length_le (by rw [← strLen]; (first | lia | omega))]
theorem nameN_cps (c k : Nat) : (nameN c k).cps.toList = (aheadS.cps.toList.take (c * 7 % 11) ++ [97 + k * 7 % 26, 97 + k / 26] ++ behindS.cps.toList.take (c * 5 % 11)).take 12 := by
  unfold nameN
  rw [slice_take, cps_append, cps_append, slice_take, slice_take, cps_append]
  rfl
theorem nameN_cut (c k : Nat) : (nameN c k).cps.toList = aheadS.cps.toList.take (c * 7 % 11) ++ ([97 + k * 7 % 26, 97 + k / 26] ++ (behindS.cps.toList.take (c * 5 % 11)).take (12 - (c * 7 % 11 + 2))) := by
  have h1 := ahead_len
  rw [strLen] at h1
  have m : c * 7 % 11 ≤ 10 := Nat.le_of_lt_succ (Nat.mod_lt _ (by decide))
  rw [nameN_cps, List.append_assoc]
  generalize c * 7 % 11 = a at m ⊢
  generalize c * 5 % 11 = b
  generalize 97 + k * 7 % 26 = u
  generalize 97 + k / 26 = w
  have h2 : (aheadS.cps.toList.take a).length = a := by rw [List.length_take, h1]; exact Nat.min_eq_left m
  have t1 : (aheadS.cps.toList.take a).take 12 = aheadS.cps.toList.take a := List.take_of_length_le (by rw [h2]; exact Nat.le_trans m (by decide))
  have t2 : ([u, w] ++ behindS.cps.toList.take b).take (12 - a) = [u, w] ++ (behindS.cps.toList.take b).take (12 - (a + 2)) := by
    rw [List.take_append, List.take_of_length_le (l := [u, w]) (Nat.le_sub_of_add_le (show 2 + a ≤ 12 by (first | lia | omega))), show 12 - a - [u, w].length = 12 - (a + 2) from Nat.sub_sub ..]
  rw [List.take_append, t1, h2, t2]
theorem nameN_inj {c j k : Nat} (hj : j < 182) (hk : k < 182) (h : nameN c j = nameN c k) : j = k := by
  have e := congrArg (fun x : Str => x.cps.toList) h
  simp only [nameN_cut] at e
  have e2 := List.append_cancel_left e
  have e3 := List.append_cancel_right e2
  simp only [List.cons.injEq, and_true] at e3
  obtain ⟨e4, e5⟩ := e3
  (first | lia | omega)
theorem nameN_isW (c k : Nat) (hk : k < 676) : isW (nameN c k) = true := by
  have h1 := ahead_len
  rw [strLen] at h1
  have l : (nameN c k).length = c * 7 % 11 + 2 + min (12 - (c * 7 % 11 + 2)) (min (c * 5 % 11) 10) := by
    have h2 := behind_len
    rw [strLen] at h2
    rw [strLen, nameN_cut]
    have m : c * 7 % 11 ≤ 10 := Nat.le_of_lt_succ (Nat.mod_lt _ (by decide))
    rw [List.length_append, List.length_append, List.length_take, List.length_take, List.length_take, h1, h2, Nat.min_eq_left m, Nat.add_assoc]
    rfl
  have o : okS (nameN c k) = true := by
    refine okS_of fun x hx => ?_
    rw [nameN_cut] at hx
    simp only [List.mem_append, List.mem_cons, List.not_mem_nil, or_false] at hx
    rcases hx with h | (h | h) | h
    · exact ahead_ok x (List.mem_of_mem_take h)
    · (first | lia | omega)
    · (first | lia | omega)
    · exact behind_ok x (List.mem_of_mem_take (List.mem_of_mem_take h))
  have m : c * 7 % 11 ≤ 10 := Nat.le_of_lt_succ (Nat.mod_lt _ (by decide))
  unfold isW
  rw [o, l]
  simp only [Bool.and_true, Bool.and_eq_true, decide_eq_true_eq]
  generalize c * 7 % 11 = a at m ⊢
  generalize min (c * 5 % 11) 10 = b
  (first | lia | omega)
theorem nameN_ok (c k : Nat) (hk : k < 676) : PyData.strOk (nameN c k) = true := by
  rw [strOk_iff]
  intro x hx
  rw [nameN_cut] at hx
  simp only [List.mem_append, List.mem_cons, List.not_mem_nil, or_false] at hx
  rcases hx with h | (h | h) | h
  · have := ahead_ok x (List.mem_of_mem_take h); (first | lia | omega)
  · (first | lia | omega)
  · (first | lia | omega)
  · have := behind_ok x (List.mem_of_mem_take (List.mem_of_mem_take h)); (first | lia | omega)
theorem c_name2 (hK : C.K = KL C.w.params) {c k : Nat} {Q : V → Store → Prop} (hr : A.depth < recursionLimit) (hh : A.handled = none) (hk : k < 676) (hc : c ≤ 1000) (h : Q (.str (nameN c k)) σ) : CallWP C A (.ref 327) [.int k, .int c] σ Q X := by
  k_extra "mdef2"
  intro L A' a1 a2 a3
  have hh' : A'.handled = none := a1.trans hh
  have b0 : ((k : Int) * 7).fmod 26 = ((k * 7 % 26 : Nat) : Int) := by rw [Int.fmod_eq_emod_of_nonneg _ (by (first | lia | omega))]; (first | lia | omega)
  have b1 : (k : Int).fdiv 26 = ((k / 26 : Nat) : Int) := by rw [Int.fdiv_eq_ediv_of_nonneg _ (by (first | lia | omega))]; (first | lia | omega)
  have b2 : ((c : Int) * 7).fmod 11 = ((c * 7 % 11 : Nat) : Int) := by rw [Int.fmod_eq_emod_of_nonneg _ (by (first | lia | omega))]; (first | lia | omega)
  have b3 : ((c : Int) * 5).fmod 11 = ((c * 5 % 11 : Nat) : Int) := by rw [Int.fmod_eq_emod_of_nonneg _ (by (first | lia | omega))]; (first | lia | omega)
  repeat k_extra "m"
  rw [b0]
  refine ItemWP.letter (by (first | lia | omega)) (by (first | lia | omega)) ?_
  repeat k_extra "m"
  rw [b1]
  refine ItemWP.letter (by (first | lia | omega)) (by (first | lia | omega)) ?_
  refine BinWP.add_str ?_ (by simp [letS_len, sizeLine_eq])
  repeat k_extra "m"
  refine ⟨_, rfl, ?_⟩
  rw [b2]
  refine SliceWP.str (by rw [sizeLine_eq, ahead_len]; (first | lia | omega)) ?_
  repeat k_extra "m"
  have l1 : (Txt.slice (Str.ofString "zyxwvutsrq") none (some ((c * 7 % 11 : Nat) : Int))).length ≤ 10 := by
    have := Txt.slice_le aheadS none (some ((c * 7 % 11 : Nat) : Int)); rw [ahead_len] at this; exact this
  have l2 : (Txt.slice (Str.ofString "abcdefghij") none (some ((c * 5 % 11 : Nat) : Int))).length ≤ 10 := by
    have := Txt.slice_le behindS none (some ((c * 5 % 11 : Nat) : Int)); rw [behind_len] at this; exact this
  refine BinWP.add_str ?_ (by rw [str_len_append, letS_len, letS_len, sizeLine_eq]; (first | lia | omega))
  repeat k_extra "m"
  refine ⟨_, rfl, ?_⟩
  rw [b3]
  refine SliceWP.str (by rw [sizeLine_eq, behind_len]; (first | lia | omega)) ?_
  refine BinWP.add_str ?_ (by rw [str_len_append, str_len_append, letS_len, letS_len, sizeLine_eq]; (first | lia | omega))
  repeat k_extra "m"
  refine ⟨_, rfl, ?_⟩
  refine SliceWP.str ?_ ?_
  · simp only [sizeLine_eq, str_len_append, letS_len]; (first | lia | omega)
  repeat k_extra "m"
  have e5 : (((k / 26 : Nat) : Int)).toNat = k / 26 := by (first | lia | omega)
  have e6 : (((k * 7 % 26 : Nat) : Int)).toNat = k * 7 % 26 := by (first | lia | omega)
  rw [e5, e6]
  exact h

/-- a deed as the law draws it: it stands, and knows no stranger -/
def DeedBy (c : Nat) (d : Deed) : Prop := d.Good ∧ ∀ kn : List Str, (∀ j, j < c → nameN c j ∈ kn) → odd kn d = false
def all7 (t : Int) (n : Str) : List Deed := [.now (Str.ofString "a"), .soon (Str.ofString "bell"), .wait t (Str.ofString "abcdefghijkl"), .cancel (Str.ofString "z"), .hush, .join n, .leave n]
theorem isW_a : isW (Str.ofString "a") = true := by decide +kernel
theorem isW_z : isW (Str.ofString "z") = true := by decide +kernel
theorem isW_bell : isW (Str.ofString "bell") = true := by decide +kernel
theorem isW_long : isW (Str.ofString "abcdefghijkl") = true := by decide +kernel
theorem all7_by {c k : Nat} {t : Int} (hc : c ≤ 41) (hk : k < c) (h0 : 0 ≤ t) (h1 : t ≤ 1000000000) : ∀ d ∈ all7 t (nameN c k), DeedBy c d := by
  have hn : isW (nameN c k) = true := nameN_isW c k (by (first | lia | omega))
  have hkn : ∀ kn : List Str, (∀ j, j < c → nameN c j ∈ kn) → (!kn.contains (nameN c k)) = false := fun kn h => by simpa using h k hk
  unfold all7
  simp only [List.forall_mem_cons]
  exact ⟨⟨isW_a, fun _ _ => rfl⟩, ⟨isW_bell, fun _ _ => rfl⟩, ⟨⟨h0, h1, isW_long⟩, fun _ _ => rfl⟩, ⟨isW_z, fun _ _ => rfl⟩, ⟨trivial, fun _ _ => rfl⟩, ⟨hn, hkn⟩, ⟨hn, hkn⟩, fun _ z => by cases z⟩
theorem c_deed_by (hK : C.K = KL C.w.params) {cell k : Int} {c : Nat} {Q : V → Store → Prop} (hr : A.depth + 1 < recursionLimit) (hh : A.handled = none) (h1 : 1 ≤ c) (hc : c ≤ 41) (h : ∀ d σ', Grow σ σ' → DeedBy c d → Q (Deed.v d) σ') : CallWP C A (.ref 334) [.int cell, .int k, .int (c : Int)] σ Q X := by
  have hr0 : A.depth < recursionLimit := by (first | lia | omega)
  k_extra "mdef3"
  intro L A' a1 a2 a3
  have hh' : A'.handled = none := a1.trans hh
  have hr' : A'.depth < recursionLimit := by (first | lia | omega)
  repeat k_extra "m"
  intro a ha
  have m0 : 0 ≤ cell.fmod 1000000001 := Int.fmod_nonneg_of_pos _ (by (first | lia | omega))
  have m1 : cell.fmod 1000000001 < 1000000001 := Int.fmod_lt_of_pos _ (by (first | lia | omega))
  have f1 : (σ.upd a (.list (([0, 1, 1000000000, cell.fmod 1000000001] : List Int).map V.int))) a = some (.list (([0, 1, 1000000000, cell.fmod 1000000001] : List Int).map V.int)) := Store.hit
  have g1 : Grow σ (σ.upd a (.list (([0, 1, 1000000000, cell.fmod 1000000001] : List Int).map V.int))) := Grow.rfl'.fresh ha
  have tk : ∀ x ∈ ([0, 1, 1000000000, cell.fmod 1000000001] : List Int), 0 ≤ x ∧ x ≤ 1000000000 := by
    simp only [List.forall_mem_cons]
    exact ⟨by (first | lia | omega), by (first | lia | omega), by (first | lia | omega), ⟨m0, by (first | lia | omega)⟩, fun _ z => by cases z⟩
  have tl : ([0, 1, 1000000000, cell.fmod 1000000001] : List Int).length = 4 := rfl
  show Ev C A' _ _ _ (σ.upd a (.list (([0, 1, 1000000000, cell.fmod 1000000001] : List Int).map V.int))) _ _
  generalize ([0, 1, 1000000000, cell.fmod 1000000001] : List Int) = ts at f1 g1 tk tl ⊢
  generalize Store.upd σ a _ = σ1 at f1 g1 ⊢
  repeat k_extra "m"
  refine c_mixed hK hr' hh' (by (first | lia | omega)) fun r σ2 g2 r0 r1 => ?_
  have hx : r.toNat < ts.length := by (first | lia | omega)
  refine ItemWP.list (y := .int ts[r.toNat]) (.inl (g2 _ _ f1)) r0 (by (first | lia | omega)) (by rw [List.getElem?_map, List.getElem?_eq_getElem hx]; rfl) ?_
  obtain ⟨t0, t1⟩ := tk _ (List.getElem_mem hx)
  generalize ts[r.toNat] = tick at t0 t1 ⊢
  have g3 := g1.trans g2
  clear f1 g1 tk tl hx m0 m1 g2
  repeat k_extra "m"
  refine c_mixed hK hr' hh' (by (first | lia | omega)) fun r2 σ3 g4 r20 r21 => ?_
  obtain ⟨i, rfl⟩ : ∃ i : Nat, r2 = i := ⟨r2.toNat, by (first | lia | omega)⟩
  have hi : i < c := by (first | lia | omega)
  have g5 := g3.trans g4
  repeat k_extra "m"
  refine c_name2 hK hr' hh' (by (first | lia | omega)) (by (first | lia | omega)) ?_
  have hall := all7_by (t := tick) hc hi t0 t1
  generalize nameN c i = nm at hall ⊢
  repeat k_extra "m"
  intro x hx
  repeat k_extra "m"
  intro y hy
  repeat k_extra "m"
  refine BinWP.cat (xs := (all7 tick nm).take 5 |>.map Deed.v) (ys := (all7 tick nm).drop 5 |>.map Deed.v) (.inl (Store.at_fresh hy Store.hit)) (.inl Store.hit) (show 7 ≤ sizeLine by decide) ?_
  intro z hz
  have g6 : Grow σ (((σ3.upd x (.list ((all7 tick nm).take 5 |>.map Deed.v))).upd y (.list ((all7 tick nm).drop 5 |>.map Deed.v))).upd z (.list ((all7 tick nm).map Deed.v))) := ((g5.fresh hx).fresh hy).fresh hz
  have f6 : (((σ3.upd x (.list ((all7 tick nm).take 5 |>.map Deed.v))).upd y (.list ((all7 tick nm).drop 5 |>.map Deed.v))).upd z (.list ((all7 tick nm).map Deed.v))) z = some (.list ((all7 tick nm).map Deed.v)) := Store.hit
  show Asg _ _ _ _ _ _ (((σ3.upd x (.list ((all7 tick nm).take 5 |>.map Deed.v))).upd y (.list ((all7 tick nm).drop 5 |>.map Deed.v))).upd z (.list ((all7 tick nm).map Deed.v))) _ _
  have l7 : (all7 tick nm).length = 7 := rfl
  generalize all7 tick nm = ds at hall g6 f6 l7 ⊢
  generalize Store.upd _ z _ = σ4 at g6 f6 ⊢
  repeat k_extra "m"
  refine c_mixed hK hr' hh' (by (first | lia | omega)) fun r3 σ5 g7 r30 r31 => ?_
  have hx3 : r3.toNat < ds.length := by (first | lia | omega)
  refine ItemWP.list (y := Deed.v ds[r3.toNat]) (.inl (g7 _ _ f6)) r30 (by (first | lia | omega)) (by rw [List.getElem?_map, List.getElem?_eq_getElem hx3]; rfl) ?_
  repeat k_extra "m"
  exact h _ _ (g6.trans g7) (hall _ (List.getElem_mem hx3))

/-- a handler as the law draws it -/
structure HBy (c k : Nat) (hn : Hn) : Prop where
  name : hn.name = nameN c k
  hears : hn.hears = Str.ofString "" ∨ isW hn.hears = true
  len : hn.ds.length ≤ 31
  ds : ∀ d ∈ hn.ds, d.Good
theorem HBy.of {c k : Nat} {nm w : Str} {cell : Int} {o : Bool} {ds : List Deed} (e : nm = nameN c k) (h1 : w = Str.ofString "" ∨ isW w = true) (h2 : ds.length ≤ 31) (h3 : ∀ d ∈ ds, d.Good) : HBy c k ⟨nm, cell, w, o, ds⟩ := ⟨e, h1, h2, h3⟩
theorem c_handler_by (hK : C.K = KL C.w.params) {cell : Int} {c k : Nat} {Q : V → Store → Prop} (hr : A.depth + 2 < recursionLimit) (hh : A.handled = none) (h1 : 1 ≤ c) (hc : c ≤ 41) (hk : k < c) (h : ∀ hn x σ', Grow σ σ' → HBy c k hn → (∀ d ∈ hn.ds, DeedBy c d) → Holds C σ' x (hn.ds.map Deed.v) → Q (hn.tv x) σ') : CallWP C A (.ref 339) [.int cell, .int (k : Int), .int (c : Int)] σ Q X := by
  have hr0 : A.depth < recursionLimit := by (first | lia | omega)
  k_extra "mdef3"
  intro L A' a1 a2 a3
  have hh' : A'.handled = none := a1.trans hh
  have hr' : A'.depth < recursionLimit := by (first | lia | omega)
  have hr1 : A'.depth + 1 < recursionLimit := by (first | lia | omega)
  repeat k_extra "m"
  refine c_mixed hK hr' hh' (by (first | lia | omega)) fun s0 σ1 g1 s00 s01 => ?_
  k_extra "m"
  k_extra "m"
  with_reducible refine Exs.cut (fun ρ' σ' => ∃ n : Nat, Grow σ σ' ∧ n ≤ 31 ∧ ρ'.get "_law_size" = some (.int (n : Int)) ∧ ρ'.get "_law_cell" = some (.int cell) ∧ ρ'.get "_law_k" = some (.int (k : Int)) ∧ ρ'.get "_law_count" = some (.int (c : Int))) ?_ ?_
  · repeat k_extra "m"
    refine c_mixed hK hr' hh' (by (first | lia | omega)) fun s1 σ2 g2 s10 s11 => ?_
    repeat k_extra "m"
    refine Br.both ?_ ?_
    · repeat k_extra "m"
      refine c_mixed hK hr' hh' (by (first | lia | omega)) fun s2 σ3 g3 s20 s21 => ?_
      repeat k_extra "m"
      refine ⟨rfl, (29 + s2).toNat, (g1.trans g2).trans g3, by (first | lia | omega), ?_, by k_extra "mget", by k_extra "mget", by k_extra "mget"⟩
      rw [Int.toNat_of_nonneg (by (first | lia | omega))]; k_extra "mget"
    · repeat k_extra "m"
      refine ⟨rfl, s0.toNat, g1.trans g2, by (first | lia | omega), ?_, by k_extra "mget", by k_extra "mget", by k_extra "mget"⟩
      rw [Int.toNat_of_nonneg (by (first | lia | omega))]; k_extra "mget"
  clear g1 s00 s01
  rintro ρ1 σ1 ⟨n, g1, hn31, r1, r2, r3, r4⟩
  have er : irange 0 (n : Int) = (List.range' 0 n).map fun (i : Nat) => V.int (i : Int) := by
    unfold irange
    rw [List.range_eq_range']
    simp
  with_reducible refine Exs.cut (fun ρ' σ' => ∃ (l : Addr) (ds : List Deed), Grow σ σ' ∧ ds.length ≤ 31 ∧ (∀ d ∈ ds, DeedBy c d) ∧ σ' l = some (.list (ds.map Deed.v)) ∧ ρ'.get "_law_deeds" = some (.ref l) ∧ ρ'.get "_law_cell" = some (.int cell) ∧ ρ'.get "_law_k" = some (.int (k : Int)) ∧ ρ'.get "_law_count" = some (.int (c : Int))) ?_ ?_
  · repeat k_extra "m"
    refine ⟨_, _, ItV.rng hh' (by (first | lia | omega)) (by (first | lia | omega)) (by (first | lia | omega)) (by (first | lia | omega)), fun L' => ?_⟩
    rw [er]
    refine CmpL.inv (fun (i : Nat) => V.int (i : Int)) (fun ys out σ3 => ∃ ds : List Deed, ys = List.range' ds.length (n - ds.length) ∧ ds.length ≤ n ∧ Grow σ σ3 ∧ (∀ d ∈ ds, DeedBy c d) ∧ out = ds.map Deed.v) ?_ ?_ _ _ _ ⟨[], by simp, by simp, g1, (fun _ z => by cases z), rfl⟩
    · rintro i ys out σ3 ⟨ds, e, hlen, g3, hd, rfl⟩
      have hlt : ds.length < n := by
        cases z : n - ds.length with
        | zero => rw [z] at e; cases e
        | succ m => (first | lia | omega)
      rw [show n - ds.length = (n - (ds.length + 1)) + 1 by (first | lia | omega), List.range'_succ] at e
      obtain ⟨rfl, rfl⟩ := List.cons.inj e
      repeat k_extra "m"
      refine c_deed_by hK hr1 hh' h1 hc fun d σ4 g4 hd4 => ?_
      refine ⟨by rw [List.length_map, sizeLine_eq]; (first | lia | omega), trivial, ds ++ [d], by simp, by simp; (first | lia | omega), g3.trans g4, fun d' hd' => ?_, by simp⟩
      rcases List.mem_append.mp hd' with z | z
      · exact hd d' z
      · rw [List.mem_singleton.mp z]; exact hd4
    · rintro out σ3 ⟨ds, e, hlen, g3, hd, rfl⟩
      intro l hl
      repeat k_extra "m"
      exact ⟨rfl, l, ds, g3.fresh hl, by (first | lia | omega), hd, Store.hit, by k_extra "mget", by k_extra "mget", by k_extra "mget", by k_extra "mget"⟩
  clear r1 r2 r3 r4 er hn31 g1
  rintro ρ2 σ2 ⟨l, ds, g2, hlen, hd, hl, r1, r2, r3, r4⟩
  with_reducible refine Exs.cut (fun ρ' σ' => ∃ x, Grow σ σ' ∧ Holds C σ' x (ds.map Deed.v) ∧ ρ'.get "_law_deeds" = some x ∧ ρ'.get "_law_cell" = some (.int cell) ∧ ρ'.get "_law_k" = some (.int (k : Int)) ∧ ρ'.get "_law_count" = some (.int (c : Int))) ?_ ?_
  · repeat k_extra "m"
    refine c_mixed hK hr' hh' (by (first | lia | omega)) fun s1 σ3 g3 s10 s11 => ?_
    repeat k_extra "m"
    refine Br.both ?_ ?_
    · repeat k_extra "m"
      refine CallWP.tupOf (.inl (g3 _ _ hl)) (by simp [sizeLine_eq]; (first | lia | omega)) ?_
      repeat k_extra "m"
      exact ⟨rfl, _, g2.trans g3, .inr rfl, by k_extra "mget", by k_extra "mget", by k_extra "mget", by k_extra "mget"⟩
    · repeat k_extra "m"
      exact ⟨rfl, _, g2.trans g3, .inl ⟨l, rfl, g3 _ _ hl⟩, r1, by k_extra "mget", by k_extra "mget", by k_extra "mget"⟩
  clear r1 r2 r3 r4 g2 hl
  rintro ρ3 σ3 ⟨x, g3, hx, r1, r2, r3, r4⟩
  repeat k_extra "m"
  refine c_name2 hK hr' hh' (by (first | lia | omega)) (by (first | lia | omega)) ?_
  repeat k_extra "m"
  intro b hb
  have f1 : (σ3.upd b (.list (([Str.ofString "", Str.ofString "bell", Str.ofString "a"] : List Str).map V.str))) b = some (.list (([Str.ofString "", Str.ofString "bell", Str.ofString "a"] : List Str).map V.str)) := Store.hit
  have g4 : Grow σ3 (σ3.upd b (.list (([Str.ofString "", Str.ofString "bell", Str.ofString "a"] : List Str).map V.str))) := Grow.rfl'.fresh hb
  have hw : ∀ w ∈ ([Str.ofString "", Str.ofString "bell", Str.ofString "a"] : List Str), w = Str.ofString "" ∨ isW w = true := by
    simp only [List.forall_mem_cons]
    exact ⟨.inl (by trivial), .inr isW_bell, .inr isW_a, fun _ z => by cases z⟩
  have tl : ([Str.ofString "", Str.ofString "bell", Str.ofString "a"] : List Str).length = 3 := rfl
  show Ev C A' _ _ _ (σ3.upd b (.list (([Str.ofString "", Str.ofString "bell", Str.ofString "a"] : List Str).map V.str))) _ _
  generalize ([Str.ofString "", Str.ofString "bell", Str.ofString "a"] : List Str) = ws at f1 g4 hw tl ⊢
  generalize Store.upd σ3 b _ = σ4 at f1 g4 ⊢
  repeat k_extra "m"
  refine c_mixed hK hr' hh' (by (first | lia | omega)) fun s1 σ5 g5 s10 s11 => ?_
  have hx3 : s1.toNat < ws.length := by (first | lia | omega)
  refine ItemWP.list (y := V.str ws[s1.toNat]) (.inl (g5 _ _ f1)) s10 (by (first | lia | omega)) (by rw [List.getElem?_map, List.getElem?_eq_getElem hx3]; rfl) ?_
  have hw' := hw _ (List.getElem_mem hx3)
  generalize ws[s1.toNat] = w at hw' ⊢
  repeat k_extra "m"
  refine c_mixed hK hr' hh' (by (first | lia | omega)) fun s2 σ6 g6 s20 s21 => ?_
  repeat k_extra "m"
  have H1 : HBy c k ⟨nameN c k, cell, w, s2 == 0, ds⟩ := HBy.of rfl hw' hlen fun d hd' => (hd d hd').1
  revert H1
  generalize nameN c k = nm
  intro H1
  exact h ⟨nm, cell, w, s2 == 0, ds⟩ x σ6 (((g3.trans g4).trans g5).trans g6) H1 hd (((hx.grow g4).grow g5).grow g6)

/-- what a twisted deed was -/
def Front (f : List V) : Prop := (∃ w, withAWord.contains w = true ∧ f = [.str w]) ∨ f = [.str (Str.ofString "wait"), .int 3]
theorem Front.len {f : List V} (h : Front f) : 1 ≤ f.length ∧ f.length ≤ 2 := by
  rcases h with ⟨w, _, rfl⟩ | rfl
  · exact ⟨by simp, by simp⟩
  · exact ⟨by simp, by simp⟩
theorem Front.last {f : List V} {v : V} (h : Front f) (w : WV C σ v false) : DV C σ (.tup (f ++ [v])) false := by
  rcases h with ⟨x, hx, rfl⟩ | rfl
  · exact .word hx w
  · exact .wait (by (first | lia | omega)) (by (first | lia | omega)) w
theorem Front.more {f : List V} {u v : V} (h : Front f) : DV C σ (.tup (f ++ [u, v])) false := by
  rcases h with ⟨x, hx, rfl⟩ | rfl
  · exact .wlen hx (by simp) (by simp)
  · exact .tlen (by simp) (by simp)
theorem Front.less {f : List V} (h : Front f) : DV C σ (.tup f) false := by
  rcases h with ⟨x, hx, rfl⟩ | rfl
  · exact .wlen hx (by simp) (by simp)
  · exact .tlen (by simp) (by simp)
theorem WV.bad {x : Str} (h : x.length ≤ 1000) (h2 : isW x = false) : WV C σ (.str x) false := .inl ⟨x, rfl, h, h2⟩
theorem WV.odd {v : V} {t : Ty} (h : HasTy C σ v t) (h2 : isiB t "str" = false) : WV C σ v false := .inr ⟨rfl, t, h, h2⟩
abbrev odd7 : List V := [.str (Str.ofString ""), .str (Str.ofString "A"), .str (Str.ofString "a b"), .str (Str.ofString "abcdefghijklm"), .int 5, .none, .bool true]
theorem odd7_wv : ∀ v ∈ odd7, WV C σ v false := by
  simp only [List.forall_mem_cons]
  exact ⟨.bad (by decide +kernel) (by decide +kernel), .bad (by decide +kernel) (by decide +kernel), .bad (by decide +kernel) (by decide +kernel), .bad (by decide +kernel) (by decide +kernel), .odd (.int 5) rfl, .odd .none rfl, .odd (.bool true) rfl, fun _ z => by cases z⟩
theorem withA_mem : ∀ w ∈ withAWord, withAWord.contains w = true := fun w h => by simpa using h
theorem c_twisted (hK : C.K = KL C.w.params) {k : Int} {Q : V → Store → Prop} (hr : A.depth < recursionLimit) (hh : A.handled = none) (hk : 0 ≤ k) (h : ∀ v σ', Grow σ σ' → (∀ τ, DV C τ v false) → Q v σ') : CallWP C A (.ref 346) [.int k] σ Q X := by
  k_extra "mdef1"
  intro L A' a1 a2 a3
  have hh' : A'.handled = none := a1.trans hh
  with_reducible refine Exs.cut (fun ρ' σ' => ∃ f, Grow σ σ' ∧ Front f ∧ ρ'.get "_law_deed" = some (.tup (f ++ [.str (Str.ofString "bell")])) ∧ ρ'.get "_law_k" = some (.int k)) ?_ ?_
  · have b0 : 0 ≤ k.fmod 5 := Int.fmod_nonneg_of_pos _ (by (first | lia | omega))
    have b1 : k.fmod 5 < 5 := Int.fmod_lt_of_pos _ (by (first | lia | omega))
    repeat k_extra "m"
    intro a ha
    have hx : (k.fmod 5).toNat < withAWord.length := by show _ < 5; (first | lia | omega)
    repeat k_extra "m"
    refine ItemWP.list (xs := withAWord.map V.str) (y := .str withAWord[(k.fmod 5).toNat]) (.inl Store.hit) b0 (by (first | lia | omega)) (by rw [List.getElem?_map, List.getElem?_eq_getElem hx]; rfl) ?_
    have hw := withA_mem _ (List.getElem_mem hx)
    generalize withAWord[(k.fmod 5).toNat] = w at hw ⊢
    repeat k_extra "m"
    exact ⟨rfl, [.str w], Grow.rfl'.fresh ha, .inl ⟨w, hw, rfl⟩, by show _ = some (V.tup [.str w, .str (Str.ofString "bell")]); k_extra "mget", by k_extra "mget"⟩
  rintro ρ1 σ1 ⟨f, g1, hf, r1, r2⟩
  with_reducible refine Exs.cut (fun ρ' σ' => ∃ f, Grow σ σ' ∧ Front f ∧ ρ'.get "_law_deed" = some (.tup (f ++ [.str (Str.ofString "bell")])) ∧ ρ'.get "_law_k" = some (.int k)) ?_ ?_
  · repeat k_extra "m"
    refine Br.both ?_ ?_
    · repeat k_extra "m"
      exact ⟨rfl, [.str (Str.ofString "wait"), .int 3], g1, .inr rfl, by show _ = some (V.tup [.str (Str.ofString "wait"), .int 3, .str (Str.ofString "bell")]); k_extra "mget", by k_extra "mget"⟩
    · repeat k_extra "m"
      exact ⟨rfl, f, g1, hf, r1, r2⟩
  clear r1 r2 g1 hf f
  rintro ρ2 σ2 ⟨f, g1, hf, r1, r2⟩
  have w0 : 0 ≤ (k.fdiv 30).fmod 9 := Int.fmod_nonneg_of_pos _ (by (first | lia | omega))
  have w1 : (k.fdiv 30).fmod 9 < 9 := Int.fmod_lt_of_pos _ (by (first | lia | omega))
  k_extra "m"
  repeat k_extra "m"
  generalize (k.fdiv 30).fmod 9 = w at w0 w1 ⊢
  have fl := hf.len
  by_cases q7 : w < 7
  · refine Br.t (by simpa using q7) ?_
    k_extra "m"
    k_extra "m"
    k_extra "m"
    refine Ev.sliceT ?_
    repeat k_extra "m"
    refine ⟨_, rfl, f ++ [.str (Str.ofString "bell")], _, rfl, rfl, by simp; (first | lia | omega), by simp; (first | lia | omega), by simp; (first | lia | omega), ?_⟩
    rw [show (f ++ [V.str (Str.ofString "bell")]).take (uptoT (-1) (f ++ [V.str (Str.ofString "bell")]).length) = f by
      rw [show uptoT (-1) (f ++ [V.str (Str.ofString "bell")]).length = f.length by unfold uptoT; rw [if_pos (by (first | lia | omega))]; simp only [List.length_append, List.length_cons, List.length_nil]; omega]; simp]
    repeat k_extra "m"
    intro a ha
    have hx : w.toNat < odd7.length := by show _ < 7; (first | lia | omega)
    repeat k_extra "m"
    refine ItemWP.list (xs := odd7) (y := odd7[w.toNat]) (.inl Store.hit) w0 (by (first | lia | omega)) (List.getElem?_eq_getElem hx) ?_
    have hw : ∀ τ, WV C τ odd7[w.toNat] false := fun τ => odd7_wv _ (List.getElem_mem hx)
    generalize odd7[w.toNat] = v at hw ⊢
    repeat k_extra "m"
    refine BinWP.catT (by simp; (first | lia | omega)) ?_
    repeat k_extra "m"
    exact h _ _ (g1.fresh ha) fun τ => hf.last (hw τ)
  · refine Br.f (by simpa using q7) ?_
    repeat k_extra "m"
    refine Br.both ?_ ?_
    · repeat k_extra "m"
      refine BinWP.catT (by simp; (first | lia | omega)) ?_
      repeat k_extra "m"
      refine h _ _ g1 fun τ => ?_
      rw [List.append_assoc]
      exact hf.more
    · k_extra "m"
      k_extra "m"
      k_extra "m"
      k_extra "m"
      refine Ev.sliceT ?_
      repeat k_extra "m"
      refine ⟨_, rfl, f ++ [.str (Str.ofString "bell")], _, rfl, rfl, by simp; (first | lia | omega), by simp; (first | lia | omega), by simp; (first | lia | omega), ?_⟩
      rw [show (f ++ [V.str (Str.ofString "bell")]).take (uptoT (-1) (f ++ [V.str (Str.ofString "bell")]).length) = f by
        rw [show uptoT (-1) (f ++ [V.str (Str.ofString "bell")]).length = f.length by unfold uptoT; rw [if_pos (by (first | lia | omega))]; simp only [List.length_append, List.length_cons, List.length_nil]; omega]; simp]
      repeat k_extra "m"
      exact h _ _ g1 fun τ => hf.less

def Store.del (σ : Store) (l : Addr) : Store := fun a => if a = l then none else σ a
theorem Grow.del {σ σ' : Store} {l : Addr} (g : Grow σ σ') : Grow (σ.del l) (σ'.del l) := by
  intro b o e
  unfold Store.del at e ⊢
  split at e
  · cases e
  · rename_i h; rw [if_neg h]; exact g b o e
theorem del_ne {σ : Store} {l y : Addr} {o : O} (h : y ≠ l) (e : σ y = some o) : (σ.del l) y = some o := by
  unfold Store.del; rw [if_neg h]; exact e
theorem Grow.ofDel {σ : Store} {l : Addr} : Grow (σ.del l) σ := by
  intro b o e
  unfold Store.del at e
  split at e
  · cases e
  · exact e
theorem ne_l {σ σ' : Store} {l y : Addr} {o : O} (h : σ l = some o) (g : Grow σ σ') (e : σ' y = none) : y ≠ l := fun q => by
  rw [q, g _ _ h] at e; cases e
/-- odd deeds -/
def Bads (C : Cx) (σ : Store) (l : Addr) (vs : List V) : Prop := ∀ v ∈ vs, DV C (σ.del l) v false
theorem Bads.grow {σ' : Store} {l : Addr} {vs : List V} (h : Bads C σ l vs) (g : Grow σ σ') : Bads C σ' l vs := fun v hv => (h v hv).grow g.del
theorem Bads.app {l : Addr} {vs ws : List V} (h : Bads C σ l vs) (h2 : Bads C σ l ws) : Bads C σ l (vs ++ ws) := fun v hv => (List.mem_append.mp hv).elim (h v) (h2 v)
theorem bads1 {l : Addr} : Bads C σ l [.tup [.str (Str.ofString "now")], .tup [.str (Str.ofString "now"), .str (Str.ofString "A")], .tup [.str (Str.ofString "wait"), .int (-1), .str (Str.ofString "a")], .tup [.str (Str.ofString "wait"), .int 1000000001, .str (Str.ofString "a")], .tup [.str (Str.ofString "wait"), .bool true, .str (Str.ofString "a")], .tup [.str (Str.ofString "wait"), .int 1]] := by
  unfold Bads
  rw [List.forall_mem_cons]
  refine ⟨?_, ?_⟩
  · exact .wlen (by decide +kernel) (by simp) (by simp)
  rw [List.forall_mem_cons]
  refine ⟨?_, ?_⟩
  · exact .word (by decide +kernel) (.bad (by decide +kernel) (by decide +kernel))
  rw [List.forall_mem_cons]
  refine ⟨?_, ?_⟩
  · exact .tlow (by (first | lia | omega))
  rw [List.forall_mem_cons]
  refine ⟨?_, ?_⟩
  · exact .tlow (by (first | lia | omega))
  rw [List.forall_mem_cons]
  refine ⟨?_, ?_⟩
  · exact .tnot ⟨_, (.bool true), rfl⟩
  rw [List.forall_mem_cons]
  refine ⟨?_, ?_⟩
  · exact .tlen (by simp) (by simp)
  exact fun _ z => by cases z
theorem bads2 {l b1 : Addr} (tb1 : HasTy C (σ.del l) (.ref b1) .list) : Bads C σ l [.tup [.str (Str.ofString "hush"), .str (Str.ofString "a")], .ref b1, .tup [.str (Str.ofString "jump"), .str (Str.ofString "a")], .tup [], .tup [.str (Str.ofString "soon"), .str (Str.ofString "")], .tup [.str (Str.ofString "join"), .int 5], .none, .tup [.str (Str.ofString "a"), .str (Str.ofString "now")]] := by
  unfold Bads
  rw [List.forall_mem_cons]
  refine ⟨?_, ?_⟩
  · exact .other (by decide +kernel) (by decide +kernel) (strOk_ofString _) (by simp)
  rw [List.forall_mem_cons]
  refine ⟨?_, ?_⟩
  · exact .notup tb1 rfl
  rw [List.forall_mem_cons]
  refine ⟨?_, ?_⟩
  · exact .other (by decide +kernel) (by decide +kernel) (strOk_ofString _) (by simp)
  rw [List.forall_mem_cons]
  refine ⟨?_, ?_⟩
  · exact .nil
  rw [List.forall_mem_cons]
  refine ⟨?_, ?_⟩
  · exact .word (by decide +kernel) (.bad (by decide +kernel) (by decide +kernel))
  rw [List.forall_mem_cons]
  refine ⟨?_, ?_⟩
  · exact .word (by decide +kernel) (.odd (.int _) rfl)
  rw [List.forall_mem_cons]
  refine ⟨?_, ?_⟩
  · exact .notup .none rfl
  rw [List.forall_mem_cons]
  refine ⟨?_, ?_⟩
  · exact .other (by decide +kernel) (by decide +kernel) (strOk_ofString _) (by simp)
  exact fun _ z => by cases z
theorem bads3 {l : Addr} : Bads C σ l [.tup [.str (Str.ofString "Now"), .str (Str.ofString "a")], .tup [.str (Str.ofString ""), .str (Str.ofString "a")], .tup [.str (Str.ofString "wait"), .int 5, .str (Str.ofString "")], .tup [.str (Str.ofString "cancel"), .str (Str.ofString "a"), .str (Str.ofString "b")], .tup [.str (Str.ofString "waits"), .int 5, .str (Str.ofString "a")], .tup [.str (Str.ofString "hush"), .int 1, .str (Str.ofString "a")]] := by
  unfold Bads
  rw [List.forall_mem_cons]
  refine ⟨?_, ?_⟩
  · exact .other (by decide +kernel) (by decide +kernel) (strOk_ofString _) (by simp)
  rw [List.forall_mem_cons]
  refine ⟨?_, ?_⟩
  · exact .other (by decide +kernel) (by decide +kernel) (strOk_ofString _) (by simp)
  rw [List.forall_mem_cons]
  refine ⟨?_, ?_⟩
  · exact .wait (by (first | lia | omega)) (by (first | lia | omega)) (.bad (by decide +kernel) (by decide +kernel))
  rw [List.forall_mem_cons]
  refine ⟨?_, ?_⟩
  · exact .wlen (by decide +kernel) (by simp) (by simp)
  rw [List.forall_mem_cons]
  refine ⟨?_, ?_⟩
  · exact .other (by decide +kernel) (by decide +kernel) (strOk_ofString _) (by simp)
  rw [List.forall_mem_cons]
  refine ⟨?_, ?_⟩
  · exact .other (by decide +kernel) (by decide +kernel) (strOk_ofString _) (by simp)
  exact fun _ z => by cases z
theorem bads4 {l d1 d2 d3 d4 d5 d6 d7 : Addr} (td1 : HasTy C (σ.del l) (.ref d1) .list) (td2 : HasTy C (σ.del l) (.ref d2) .dict) (td3 : HasTy C (σ.del l) (.ref d3) .list) (td4 : HasTy C (σ.del l) (.ref d4) .list) (td5 : HasTy C (σ.del l) (.ref d5) .dict) (td6 : HasTy C (σ.del l) (.ref d6) .list) (td7 : HasTy C (σ.del l) (.ref d7) .dict) : Bads C σ l [.tup [.ref d1, .str (Str.ofString "a")], .tup [.ref d2, .str (Str.ofString "a")], .tup [.ref d3], .tup [.str (Str.ofString "now"), .ref d4], .tup [.str (Str.ofString "join"), .ref d5], .tup [.str (Str.ofString "wait"), .ref d6, .str (Str.ofString "a")], .tup [.str (Str.ofString "wait"), .int 3, .ref d7]] := by
  unfold Bads
  rw [List.forall_mem_cons]
  refine ⟨?_, ?_⟩
  · exact .head td1 rfl (by simp)
  rw [List.forall_mem_cons]
  refine ⟨?_, ?_⟩
  · exact .head td2 rfl (by simp)
  rw [List.forall_mem_cons]
  refine ⟨?_, ?_⟩
  · exact .head td3 rfl (by simp)
  rw [List.forall_mem_cons]
  refine ⟨?_, ?_⟩
  · exact .word (by decide +kernel) (.odd td4 rfl)
  rw [List.forall_mem_cons]
  refine ⟨?_, ?_⟩
  · exact .word (by decide +kernel) (.odd td5 rfl)
  rw [List.forall_mem_cons]
  refine ⟨?_, ?_⟩
  · exact .tnot ⟨_, td6, rfl⟩
  rw [List.forall_mem_cons]
  refine ⟨?_, ?_⟩
  · exact .wait (by (first | lia | omega)) (by (first | lia | omega)) (.odd td7 rfl)
  exact fun _ z => by cases z

theorem c_bad_deed (hK : C.K = KL C.w.params) {k : Int} {l : Addr} {o : O} {Q : V → Store → Prop} (hr : A.depth + 1 < recursionLimit) (hh : A.handled = none) (hk : 0 ≤ k) (hl : σ l = some o) (h : ∀ v σ', Grow σ σ' → DV C (σ'.del l) v false → Q v σ') : CallWP C A (.ref 353) [.int k] σ Q X := by
  have hr0 : A.depth < recursionLimit := by (first | lia | omega)
  k_extra "mdef1"
  intro L A' a1 a2 a3
  have hh' : A'.handled = none := a1.trans hh
  have hr' : A'.depth < recursionLimit := by (first | lia | omega)
  with_reducible refine Exs.cut (fun ρ' σ' => ∃ (a : Addr) (vs : List V), Grow σ σ' ∧ vs.length = 6 ∧ Bads C σ' l vs ∧ σ' a = some (.list vs) ∧ ρ'.get "_law_some" = some (.ref a) ∧ ρ'.get "_law_k" = some (.int k)) ?_ ?_
  · repeat k_extra "m"
    intro a ha
    repeat k_extra "m"
    exact ⟨rfl, a, _, Grow.rfl'.fresh ha, by rfl, bads1, Store.hit, by k_extra "mget", by k_extra "mget"⟩
  rintro ρ1 σ1 ⟨a, vs, g1, n1, B1, f1, r1, r2⟩
  with_reducible refine Exs.cut (fun ρ' σ' => ∃ (a : Addr) (vs : List V), Grow σ σ' ∧ vs.length = 14 ∧ Bads C σ' l vs ∧ σ' a = some (.list vs) ∧ ρ'.get "_law_some" = some (.ref a) ∧ ρ'.get "_law_k" = some (.int k)) ?_ ?_
  · repeat k_extra "m"
    intro b1 hb1
    have nb1 : b1 ≠ l := ne_l hl g1 hb1
    have Gb1 : Grow σ1 (σ1.upd b1 (.list [.str (Str.ofString "now"), .str (Str.ofString "a")])) := Grow.rfl'.fresh hb1
    have tb1 : HasTy C ((σ1.upd b1 (.list [.str (Str.ofString "now"), .str (Str.ofString "a")])).del l) (.ref b1) .list := .list (.inl (del_ne nb1 Store.hit))
    generalize Store.upd σ1 b1 _ = sb1 at Gb1 tb1 ⊢
    replace g1 := g1.trans Gb1
    replace f1 := Gb1 _ _ f1
    replace B1 := B1.grow Gb1
    repeat k_extra "m"
    intro b hb
    have B2 : Bads C sb1 l [.tup [.str (Str.ofString "hush"), .str (Str.ofString "a")], .ref b1, .tup [.str (Str.ofString "jump"), .str (Str.ofString "a")], .tup [], .tup [.str (Str.ofString "soon"), .str (Str.ofString "")], .tup [.str (Str.ofString "join"), .int 5], .none, .tup [.str (Str.ofString "a"), .str (Str.ofString "now")]] := bads2 tb1
    show BinWP C A' _ _ _ (Store.upd _ b (.list [.tup [.str (Str.ofString "hush"), .str (Str.ofString "a")], .ref b1, .tup [.str (Str.ofString "jump"), .str (Str.ofString "a")], .tup [], .tup [.str (Str.ofString "soon"), .str (Str.ofString "")], .tup [.str (Str.ofString "join"), .int 5], .none, .tup [.str (Str.ofString "a"), .str (Str.ofString "now")]])) _ _
    have l2 : ([.tup [.str (Str.ofString "hush"), .str (Str.ofString "a")], .ref b1, .tup [.str (Str.ofString "jump"), .str (Str.ofString "a")], .tup [], .tup [.str (Str.ofString "soon"), .str (Str.ofString "")], .tup [.str (Str.ofString "join"), .int 5], .none, .tup [.str (Str.ofString "a"), .str (Str.ofString "now")]] : List V).length = 8 := rfl
    generalize ([.tup [.str (Str.ofString "hush"), .str (Str.ofString "a")], .ref b1, .tup [.str (Str.ofString "jump"), .str (Str.ofString "a")], .tup [], .tup [.str (Str.ofString "soon"), .str (Str.ofString "")], .tup [.str (Str.ofString "join"), .int 5], .none, .tup [.str (Str.ofString "a"), .str (Str.ofString "now")]] : List V) = ws at B2 l2 ⊢
    refine BinWP.cat (xs := vs) (ys := ws) (.inl (Store.at_fresh hb f1)) (.inl Store.hit) (by rw [n1, l2, sizeLine_eq]; (first | lia | omega)) ?_
    intro d hd
    repeat k_extra "m"
    exact ⟨rfl, d, vs ++ ws, (g1.fresh hb).fresh hd, by rw [List.length_append, n1, l2], (B1.app B2).grow ((Grow.rfl'.fresh hb).fresh hd), Store.hit, by k_extra "mget", by k_extra "mget"⟩
  rintro ρ1 σ1 ⟨a, vs, g1, n1, B1, f1, r1, r2⟩
  with_reducible refine Exs.cut (fun ρ' σ' => ∃ (a : Addr) (vs : List V), Grow σ σ' ∧ vs.length = 20 ∧ Bads C σ' l vs ∧ σ' a = some (.list vs) ∧ ρ'.get "_law_some" = some (.ref a) ∧ ρ'.get "_law_k" = some (.int k)) ?_ ?_
  · repeat k_extra "m"
    intro b hb
    have B2 : Bads C σ1 l [.tup [.str (Str.ofString "Now"), .str (Str.ofString "a")], .tup [.str (Str.ofString ""), .str (Str.ofString "a")], .tup [.str (Str.ofString "wait"), .int 5, .str (Str.ofString "")], .tup [.str (Str.ofString "cancel"), .str (Str.ofString "a"), .str (Str.ofString "b")], .tup [.str (Str.ofString "waits"), .int 5, .str (Str.ofString "a")], .tup [.str (Str.ofString "hush"), .int 1, .str (Str.ofString "a")]] := bads3
    show BinWP C A' _ _ _ (Store.upd _ b (.list [.tup [.str (Str.ofString "Now"), .str (Str.ofString "a")], .tup [.str (Str.ofString ""), .str (Str.ofString "a")], .tup [.str (Str.ofString "wait"), .int 5, .str (Str.ofString "")], .tup [.str (Str.ofString "cancel"), .str (Str.ofString "a"), .str (Str.ofString "b")], .tup [.str (Str.ofString "waits"), .int 5, .str (Str.ofString "a")], .tup [.str (Str.ofString "hush"), .int 1, .str (Str.ofString "a")]])) _ _
    have l2 : ([.tup [.str (Str.ofString "Now"), .str (Str.ofString "a")], .tup [.str (Str.ofString ""), .str (Str.ofString "a")], .tup [.str (Str.ofString "wait"), .int 5, .str (Str.ofString "")], .tup [.str (Str.ofString "cancel"), .str (Str.ofString "a"), .str (Str.ofString "b")], .tup [.str (Str.ofString "waits"), .int 5, .str (Str.ofString "a")], .tup [.str (Str.ofString "hush"), .int 1, .str (Str.ofString "a")]] : List V).length = 6 := rfl
    generalize ([.tup [.str (Str.ofString "Now"), .str (Str.ofString "a")], .tup [.str (Str.ofString ""), .str (Str.ofString "a")], .tup [.str (Str.ofString "wait"), .int 5, .str (Str.ofString "")], .tup [.str (Str.ofString "cancel"), .str (Str.ofString "a"), .str (Str.ofString "b")], .tup [.str (Str.ofString "waits"), .int 5, .str (Str.ofString "a")], .tup [.str (Str.ofString "hush"), .int 1, .str (Str.ofString "a")]] : List V) = ws at B2 l2 ⊢
    refine BinWP.cat (xs := vs) (ys := ws) (.inl (Store.at_fresh hb f1)) (.inl Store.hit) (by rw [n1, l2, sizeLine_eq]; (first | lia | omega)) ?_
    intro d hd
    repeat k_extra "m"
    exact ⟨rfl, d, vs ++ ws, (g1.fresh hb).fresh hd, by rw [List.length_append, n1, l2], (B1.app B2).grow ((Grow.rfl'.fresh hb).fresh hd), Store.hit, by k_extra "mget", by k_extra "mget"⟩
  clear g1 n1 B1 f1 r1 r2
  rintro ρ1 σ1 ⟨a, vs, g1, n1, B1, f1, r1, r2⟩
  with_reducible refine Exs.cut (fun ρ' σ' => ∃ (a : Addr) (vs : List V), Grow σ σ' ∧ vs.length = 27 ∧ Bads C σ' l vs ∧ σ' a = some (.list vs) ∧ ρ'.get "_law_some" = some (.ref a) ∧ ρ'.get "_law_k" = some (.int k)) ?_ ?_
  · repeat k_extra "m"
    intro d1 hd1
    have nd1 : d1 ≠ l := ne_l hl g1 hd1
    have Gd1 : Grow σ1 (σ1.upd d1 (.list [.str (Str.ofString "now")])) := Grow.rfl'.fresh hd1
    have td1 : HasTy C ((σ1.upd d1 (.list [.str (Str.ofString "now")])).del l) (.ref d1) .list := .list (.inl (del_ne nd1 Store.hit))
    generalize Store.upd σ1 d1 _ = sd1 at Gd1 td1 ⊢
    replace g1 := g1.trans Gd1
    replace f1 := Gd1 _ _ f1
    replace B1 := B1.grow Gd1
    repeat k_extra "m"
    refine Ev.dict0 fun d2 hd2 => ?_
    have nd2 : d2 ≠ l := ne_l hl g1 hd2
    have Gd2 : Grow sd1 (sd1.upd d2 (.sd [])) := Grow.rfl'.fresh hd2
    have td2 : HasTy C ((sd1.upd d2 (.sd [])).del l) (.ref d2) .dict := .sd (del_ne nd2 Store.hit)
    generalize Store.upd sd1 d2 _ = sd2 at Gd2 td2 ⊢
    replace g1 := g1.trans Gd2
    replace f1 := Gd2 _ _ f1
    replace B1 := B1.grow Gd2
    replace td1 := td1.grow Gd2.del
    repeat k_extra "m"
    intro d3 hd3
    have nd3 : d3 ≠ l := ne_l hl g1 hd3
    have Gd3 : Grow sd2 (sd2.upd d3 (.list [])) := Grow.rfl'.fresh hd3
    have td3 : HasTy C ((sd2.upd d3 (.list [])).del l) (.ref d3) .list := .list (.inl (del_ne nd3 Store.hit))
    generalize Store.upd sd2 d3 _ = sd3 at Gd3 td3 ⊢
    replace g1 := g1.trans Gd3
    replace f1 := Gd3 _ _ f1
    replace B1 := B1.grow Gd3
    replace td1 := td1.grow Gd3.del
    replace td2 := td2.grow Gd3.del
    repeat k_extra "m"
    intro d4 hd4
    have nd4 : d4 ≠ l := ne_l hl g1 hd4
    have Gd4 : Grow sd3 (sd3.upd d4 (.list [.str (Str.ofString "a")])) := Grow.rfl'.fresh hd4
    have td4 : HasTy C ((sd3.upd d4 (.list [.str (Str.ofString "a")])).del l) (.ref d4) .list := .list (.inl (del_ne nd4 Store.hit))
    generalize Store.upd sd3 d4 _ = sd4 at Gd4 td4 ⊢
    replace g1 := g1.trans Gd4
    replace f1 := Gd4 _ _ f1
    replace B1 := B1.grow Gd4
    replace td1 := td1.grow Gd4.del
    replace td2 := td2.grow Gd4.del
    replace td3 := td3.grow Gd4.del
    repeat k_extra "m"
    refine Ev.dict0 fun d5 hd5 => ?_
    have nd5 : d5 ≠ l := ne_l hl g1 hd5
    have Gd5 : Grow sd4 (sd4.upd d5 (.sd [])) := Grow.rfl'.fresh hd5
    have td5 : HasTy C ((sd4.upd d5 (.sd [])).del l) (.ref d5) .dict := .sd (del_ne nd5 Store.hit)
    generalize Store.upd sd4 d5 _ = sd5 at Gd5 td5 ⊢
    replace g1 := g1.trans Gd5
    replace f1 := Gd5 _ _ f1
    replace B1 := B1.grow Gd5
    replace td1 := td1.grow Gd5.del
    replace td2 := td2.grow Gd5.del
    replace td3 := td3.grow Gd5.del
    replace td4 := td4.grow Gd5.del
    repeat k_extra "m"
    intro d6 hd6
    have nd6 : d6 ≠ l := ne_l hl g1 hd6
    have Gd6 : Grow sd5 (sd5.upd d6 (.list [])) := Grow.rfl'.fresh hd6
    have td6 : HasTy C ((sd5.upd d6 (.list [])).del l) (.ref d6) .list := .list (.inl (del_ne nd6 Store.hit))
    generalize Store.upd sd5 d6 _ = sd6 at Gd6 td6 ⊢
    replace g1 := g1.trans Gd6
    replace f1 := Gd6 _ _ f1
    replace B1 := B1.grow Gd6
    replace td1 := td1.grow Gd6.del
    replace td2 := td2.grow Gd6.del
    replace td3 := td3.grow Gd6.del
    replace td4 := td4.grow Gd6.del
    replace td5 := td5.grow Gd6.del
    repeat k_extra "m"
    refine Ev.dict0 fun d7 hd7 => ?_
    have nd7 : d7 ≠ l := ne_l hl g1 hd7
    have Gd7 : Grow sd6 (sd6.upd d7 (.sd [])) := Grow.rfl'.fresh hd7
    have td7 : HasTy C ((sd6.upd d7 (.sd [])).del l) (.ref d7) .dict := .sd (del_ne nd7 Store.hit)
    generalize Store.upd sd6 d7 _ = sd7 at Gd7 td7 ⊢
    replace g1 := g1.trans Gd7
    replace f1 := Gd7 _ _ f1
    replace B1 := B1.grow Gd7
    replace td1 := td1.grow Gd7.del
    replace td2 := td2.grow Gd7.del
    replace td3 := td3.grow Gd7.del
    replace td4 := td4.grow Gd7.del
    replace td5 := td5.grow Gd7.del
    replace td6 := td6.grow Gd7.del
    repeat k_extra "m"
    intro b hb
    have B2 : Bads C sd7 l [.tup [.ref d1, .str (Str.ofString "a")], .tup [.ref d2, .str (Str.ofString "a")], .tup [.ref d3], .tup [.str (Str.ofString "now"), .ref d4], .tup [.str (Str.ofString "join"), .ref d5], .tup [.str (Str.ofString "wait"), .ref d6, .str (Str.ofString "a")], .tup [.str (Str.ofString "wait"), .int 3, .ref d7]] := bads4 td1 td2 td3 td4 td5 td6 td7
    show BinWP C A' _ _ _ (Store.upd _ b (.list [.tup [.ref d1, .str (Str.ofString "a")], .tup [.ref d2, .str (Str.ofString "a")], .tup [.ref d3], .tup [.str (Str.ofString "now"), .ref d4], .tup [.str (Str.ofString "join"), .ref d5], .tup [.str (Str.ofString "wait"), .ref d6, .str (Str.ofString "a")], .tup [.str (Str.ofString "wait"), .int 3, .ref d7]])) _ _
    have l2 : ([.tup [.ref d1, .str (Str.ofString "a")], .tup [.ref d2, .str (Str.ofString "a")], .tup [.ref d3], .tup [.str (Str.ofString "now"), .ref d4], .tup [.str (Str.ofString "join"), .ref d5], .tup [.str (Str.ofString "wait"), .ref d6, .str (Str.ofString "a")], .tup [.str (Str.ofString "wait"), .int 3, .ref d7]] : List V).length = 7 := rfl
    generalize ([.tup [.ref d1, .str (Str.ofString "a")], .tup [.ref d2, .str (Str.ofString "a")], .tup [.ref d3], .tup [.str (Str.ofString "now"), .ref d4], .tup [.str (Str.ofString "join"), .ref d5], .tup [.str (Str.ofString "wait"), .ref d6, .str (Str.ofString "a")], .tup [.str (Str.ofString "wait"), .int 3, .ref d7]] : List V) = ws at B2 l2 ⊢
    refine BinWP.cat (xs := vs) (ys := ws) (.inl (Store.at_fresh hb f1)) (.inl Store.hit) (by rw [n1, l2, sizeLine_eq]; (first | lia | omega)) ?_
    intro d hd
    repeat k_extra "m"
    exact ⟨rfl, d, vs ++ ws, (g1.fresh hb).fresh hd, by rw [List.length_append, n1, l2], (B1.app B2).grow ((Grow.rfl'.fresh hb).fresh hd), Store.hit, by k_extra "mget", by k_extra "mget"⟩
  clear g1 n1 B1 f1 r1 r2
  rintro ρ1 σ1 ⟨a, vs, g1, n1, B1, f1, r1, r2⟩
  have e2 : k.fdiv 2 = k / 2 := Int.fdiv_eq_ediv_of_nonneg _ (by (first | lia | omega))
  repeat k_extra "m"
  refine Br.both ?_ ?_
  · repeat k_extra "m"
    rw [e2]
    refine c_twisted hK hr' hh' (by (first | lia | omega)) fun v σ2 g2 hv => ?_
    repeat k_extra "m"
    exact h _ _ (g1.trans g2) (hv _)
  · repeat k_extra "m"
    have b0 : 0 ≤ (k.fdiv 2).fmod 27 := Int.fmod_nonneg_of_pos _ (by (first | lia | omega))
    have b1 : (k.fdiv 2).fmod 27 < 27 := Int.fmod_lt_of_pos _ (by (first | lia | omega))
    have hx : ((k.fdiv 2).fmod 27).toNat < vs.length := by (first | lia | omega)
    refine ItemWP.list (y := vs[((k.fdiv 2).fmod 27).toNat]) (.inl f1) b0 (by (first | lia | omega)) (List.getElem?_eq_getElem hx) ?_
    repeat k_extra "m"
    exact h _ _ g1 (B1 _ (List.getElem_mem hx))

theorem flat4 {n : Nat} {a b c d : V} (h1 : V.flat n a) (h2 : V.flat n b) (h3 : V.flat n c) (h4 : V.flat n d) : V.flat (n + 1) (.tup [a, b, c, d]) := by
  show ∀ x ∈ [a, b, c, d], V.flat n x
  simp only [List.forall_mem_cons]
  exact ⟨h1, h2, h3, h4, fun _ z => by cases z⟩
theorem flat5 {n : Nat} {a b c d e : V} (h1 : V.flat n a) (h2 : V.flat n b) (h3 : V.flat n c) (h4 : V.flat n d) (h5 : V.flat n e) : V.flat (n + 1) (.tup [a, b, c, d, e]) := by
  show ∀ x ∈ [a, b, c, d, e], V.flat n x
  simp only [List.forall_mem_cons]
  exact ⟨h1, h2, h3, h4, h5, fun _ z => by cases z⟩
theorem c_wrong (hK : C.K = KL C.w.params) {hn : Hn} {x : V} {c j : Nat} {way k : Int} {l : Addr} {o : O} {Q : V → Store → Prop} (hr : A.depth + 2 < recursionLimit) (hh : A.handled = none) (h0 : 0 ≤ way) (h8 : way < 8) (hk : 0 ≤ k) (hj : j < 41) (H : HBy c j hn) (hl : σ l = some o) (hf : V.flat 2 x) (h : ∀ v σ', Grow σ σ' → HV C (σ'.del l) v false → V.flat 3 v → Q v σ') : CallWP C A (.ref 360) [hn.tv x, .int way, .int k] σ Q X := by
  have hr0 : A.depth < recursionLimit := by (first | lia | omega)
  have wn : ∀ {τ : Store}, WV C τ (.str hn.name) true := fun {τ} => .inl ⟨_, rfl, by have := isW_len (nameN_isW c j (by (first | lia | omega))); rw [H.name]; (first | lia | omega), by rw [H.name]; exact nameN_isW c j (by (first | lia | omega))⟩
  have wi : ∀ {τ : Store}, IV C τ (.int hn.rank) true := fun {τ} => ⟨_, .int _, rfl⟩
  k_extra "mdef3"
  intro L A' a1 a2 a3
  have hh' : A'.handled = none := a1.trans hh
  have hr' : A'.depth + 1 < recursionLimit := by (first | lia | omega)
  with_reducible refine Exs.cut (fun ρ' σ' => σ' = σ ∧ ρ'.get "_law_one" = some (hn.tv x) ∧ ρ'.get "_law_way" = some (.int way) ∧ ρ'.get "_law_k" = some (.int k) ∧ ρ'.get "_law_name" = some (.str hn.name) ∧ ρ'.get "_law_rank" = some (.int hn.rank) ∧ ρ'.get "_law_hears" = some (.str hn.hears) ∧ ρ'.get "_law_once" = some (.bool hn.once) ∧ ρ'.get "_law_deeds" = some x) ?_ ?_
  · simp only [Hn.tv]
    repeat k_extra "m"
    exact ⟨rfl, rfl, by k_extra "mget", by k_extra "mget", by k_extra "mget", by k_extra "mget", by k_extra "mget", by k_extra "mget", by k_extra "mget", by k_extra "mget"⟩
  rintro ρ1 σ1 ⟨rfl, r1, r2, r3, r4, r5, r6, r7, r8⟩
  have g1 : Grow σ1 σ1 := Grow.rfl'
  repeat k_extra "m"
  by_cases q : way < 2
  · refine Br.t (by simpa using q) ?_
    repeat k_extra "m"
    refine CallWP.listOfTup (show 5 ≤ sizeLine by decide) fun y hy => ?_
    have ny : y ≠ l := ne_l hl g1 hy
    k_extra "m"
    refine Ev.sliceT ?_
    repeat k_extra "m"
    refine ⟨_, rfl, _, _, rfl, rfl, by simp, by simp, by simp, ?_⟩
    repeat k_extra "m"
    intro b hb
    repeat k_extra "m"
    rcases (by (first | lia | omega) : way = 0 ∨ way = 1) with rfl | rfl
    · refine ItemWP.list (.inl Store.hit) (by (first | lia | omega)) (by (first | lia | omega)) rfl ?_
      repeat k_extra "m"
      exact h _ _ ((g1.fresh hy).fresh hb) (.notup (.list (.inl (del_ne ny (Store.at_fresh hb Store.hit)))) rfl) trivial
    · refine ItemWP.list (.inl Store.hit) (by (first | lia | omega)) (by (first | lia | omega)) rfl ?_
      repeat k_extra "m"
      exact h _ _ ((g1.fresh hy).fresh hb) (.len (show (4 : Nat) ≠ 5 by decide) (show (4 : Nat) ≤ 99 by decide)) (flat4 trivial trivial trivial trivial)
  refine Br.f (by simpa using q) ?_
  repeat k_extra "m"
  by_cases q2 : way = 2
  · refine Br.t (by simp [q2]) ?_
    repeat k_extra "m"
    intro d1 hd1
    have nd1 : d1 ≠ l := ne_l hl g1 hd1
    have Gd1 : Grow σ1 (σ1.upd d1 (.list [.str (Str.ofString "a")])) := Grow.rfl'.fresh hd1
    have td1 : HasTy C ((σ1.upd d1 (.list [.str (Str.ofString "a")])).del l) (.ref d1) .list := .list (.inl (del_ne nd1 Store.hit))
    generalize Store.upd σ1 d1 _ = sd1 at Gd1 td1 ⊢
    replace g1 := g1.trans Gd1
    repeat k_extra "m"
    refine Ev.dict0 fun d2 hd2 => ?_
    have nd2 : d2 ≠ l := ne_l hl g1 hd2
    have Gd2 : Grow sd1 (sd1.upd d2 (.sd [])) := Grow.rfl'.fresh hd2
    have td2 : HasTy C ((sd1.upd d2 (.sd [])).del l) (.ref d2) .dict := .sd (del_ne nd2 Store.hit)
    generalize Store.upd sd1 d2 _ = sd2 at Gd2 td2 ⊢
    replace g1 := g1.trans Gd2
    replace td1 := td1.grow Gd2.del
    repeat k_extra "m"
    intro b hb
    have B : ∀ v ∈ ([.str (Str.ofString ""), .str (Str.ofString "Ab"), .str (Str.ofString "abcdefghijklm"), .int 5, .none, .ref d1, .ref d2] : List V), HV C (sd2.del l) (.tup [v, .int hn.rank, .str hn.hears, .bool hn.once, x]) false := by
      rw [List.forall_mem_cons]
      refine ⟨?_, ?_⟩
      · exact .name (.bad (by decide +kernel) (by decide +kernel))
      rw [List.forall_mem_cons]
      refine ⟨?_, ?_⟩
      · exact .name (.bad (by decide +kernel) (by decide +kernel))
      rw [List.forall_mem_cons]
      refine ⟨?_, ?_⟩
      · exact .name (.bad (by decide +kernel) (by decide +kernel))
      rw [List.forall_mem_cons]
      refine ⟨?_, ?_⟩
      · exact .name (.odd (.int _) rfl)
      rw [List.forall_mem_cons]
      refine ⟨?_, ?_⟩
      · exact .name (.odd .none rfl)
      rw [List.forall_mem_cons]
      refine ⟨?_, ?_⟩
      · exact .name (.odd td1 rfl)
      rw [List.forall_mem_cons]
      refine ⟨?_, ?_⟩
      · exact .name (.odd td2 rfl)
      exact fun _ z => by cases z
    have B2 : ∀ v ∈ ([.str (Str.ofString ""), .str (Str.ofString "Ab"), .str (Str.ofString "abcdefghijklm"), .int 5, .none, .ref d1, .ref d2] : List V), V.flat 2 v := by
      rw [List.forall_mem_cons]
      refine ⟨?_, ?_⟩
      · exact trivial
      rw [List.forall_mem_cons]
      refine ⟨?_, ?_⟩
      · exact trivial
      rw [List.forall_mem_cons]
      refine ⟨?_, ?_⟩
      · exact trivial
      rw [List.forall_mem_cons]
      refine ⟨?_, ?_⟩
      · exact trivial
      rw [List.forall_mem_cons]
      refine ⟨?_, ?_⟩
      · exact trivial
      rw [List.forall_mem_cons]
      refine ⟨?_, ?_⟩
      · exact trivial
      rw [List.forall_mem_cons]
      refine ⟨?_, ?_⟩
      · exact trivial
      exact fun _ z => by cases z
    have l2 : ([.str (Str.ofString ""), .str (Str.ofString "Ab"), .str (Str.ofString "abcdefghijklm"), .int 5, .none, .ref d1, .ref d2] : List V).length = 7 := rfl
    have fb : (Store.upd sd2 b (.list [.str (Str.ofString ""), .str (Str.ofString "Ab"), .str (Str.ofString "abcdefghijklm"), .int 5, .none, .ref d1, .ref d2])) b = some (.list [.str (Str.ofString ""), .str (Str.ofString "Ab"), .str (Str.ofString "abcdefghijklm"), .int 5, .none, .ref d1, .ref d2]) := Store.hit
    have gb : Grow sd2 (Store.upd sd2 b (.list [.str (Str.ofString ""), .str (Str.ofString "Ab"), .str (Str.ofString "abcdefghijklm"), .int 5, .none, .ref d1, .ref d2])) := Grow.rfl'.fresh hb
    generalize Store.upd sd2 b _ = sb at fb gb ⊢
    generalize ([.str (Str.ofString ""), .str (Str.ofString "Ab"), .str (Str.ofString "abcdefghijklm"), .int 5, .none, .ref d1, .ref d2] : List V) = ws at B B2 l2 fb
    repeat k_extra "m"
    have m0 : 0 ≤ k.fmod 7 := Int.fmod_nonneg_of_pos _ (by (first | lia | omega))
    have m1 : k.fmod 7 < 7 := Int.fmod_lt_of_pos _ (by (first | lia | omega))
    have hx : (k.fmod 7).toNat < ws.length := by (first | lia | omega)
    refine ItemWP.list (y := ws[(k.fmod 7).toNat]) (.inl fb) m0 (by (first | lia | omega)) (List.getElem?_eq_getElem hx) ?_
    repeat k_extra "m"
    exact h _ _ (g1.trans gb) ((B _ (List.getElem_mem hx)).grow gb.del) (flat5 (B2 _ (List.getElem_mem hx)) trivial trivial trivial hf)
  refine Br.f (by simp [q2]) ?_
  repeat k_extra "m"
  by_cases q3 : way = 3
  · refine Br.t (by simp [q3]) ?_
    repeat k_extra "m"
    intro d1 hd1
    have nd1 : d1 ≠ l := ne_l hl g1 hd1
    have Gd1 : Grow σ1 (σ1.upd d1 (.list [])) := Grow.rfl'.fresh hd1
    have td1 : HasTy C ((σ1.upd d1 (.list [])).del l) (.ref d1) .list := .list (.inl (del_ne nd1 Store.hit))
    generalize Store.upd σ1 d1 _ = sd1 at Gd1 td1 ⊢
    replace g1 := g1.trans Gd1
    repeat k_extra "m"
    refine Ev.dict0 fun d2 hd2 => ?_
    have nd2 : d2 ≠ l := ne_l hl g1 hd2
    have Gd2 : Grow sd1 (sd1.upd d2 (.sd [])) := Grow.rfl'.fresh hd2
    have td2 : HasTy C ((sd1.upd d2 (.sd [])).del l) (.ref d2) .dict := .sd (del_ne nd2 Store.hit)
    generalize Store.upd sd1 d2 _ = sd2 at Gd2 td2 ⊢
    replace g1 := g1.trans Gd2
    replace td1 := td1.grow Gd2.del
    repeat k_extra "m"
    intro b hb
    have B : ∀ v ∈ ([.bool true, .none, .str (Str.ofString "5"), .ref d1, .ref d2] : List V), HV C (sd2.del l) (.tup [.str hn.name, v, .str hn.hears, .bool hn.once, x]) false := by
      rw [List.forall_mem_cons]
      refine ⟨?_, ?_⟩
      · exact .rank wn ⟨_, (.bool true), rfl⟩
      rw [List.forall_mem_cons]
      refine ⟨?_, ?_⟩
      · exact .rank wn ⟨_, .none, rfl⟩
      rw [List.forall_mem_cons]
      refine ⟨?_, ?_⟩
      · exact .rank wn ⟨_, (.str _), rfl⟩
      rw [List.forall_mem_cons]
      refine ⟨?_, ?_⟩
      · exact .rank wn ⟨_, td1, rfl⟩
      rw [List.forall_mem_cons]
      refine ⟨?_, ?_⟩
      · exact .rank wn ⟨_, td2, rfl⟩
      exact fun _ z => by cases z
    have B2 : ∀ v ∈ ([.bool true, .none, .str (Str.ofString "5"), .ref d1, .ref d2] : List V), V.flat 2 v := by
      rw [List.forall_mem_cons]
      refine ⟨?_, ?_⟩
      · exact trivial
      rw [List.forall_mem_cons]
      refine ⟨?_, ?_⟩
      · exact trivial
      rw [List.forall_mem_cons]
      refine ⟨?_, ?_⟩
      · exact trivial
      rw [List.forall_mem_cons]
      refine ⟨?_, ?_⟩
      · exact trivial
      rw [List.forall_mem_cons]
      refine ⟨?_, ?_⟩
      · exact trivial
      exact fun _ z => by cases z
    have l2 : ([.bool true, .none, .str (Str.ofString "5"), .ref d1, .ref d2] : List V).length = 5 := rfl
    have fb : (Store.upd sd2 b (.list [.bool true, .none, .str (Str.ofString "5"), .ref d1, .ref d2])) b = some (.list [.bool true, .none, .str (Str.ofString "5"), .ref d1, .ref d2]) := Store.hit
    have gb : Grow sd2 (Store.upd sd2 b (.list [.bool true, .none, .str (Str.ofString "5"), .ref d1, .ref d2])) := Grow.rfl'.fresh hb
    generalize Store.upd sd2 b _ = sb at fb gb ⊢
    generalize ([.bool true, .none, .str (Str.ofString "5"), .ref d1, .ref d2] : List V) = ws at B B2 l2 fb
    repeat k_extra "m"
    have m0 : 0 ≤ k.fmod 5 := Int.fmod_nonneg_of_pos _ (by (first | lia | omega))
    have m1 : k.fmod 5 < 5 := Int.fmod_lt_of_pos _ (by (first | lia | omega))
    have hx : (k.fmod 5).toNat < ws.length := by (first | lia | omega)
    refine ItemWP.list (y := ws[(k.fmod 5).toNat]) (.inl fb) m0 (by (first | lia | omega)) (List.getElem?_eq_getElem hx) ?_
    repeat k_extra "m"
    exact h _ _ (g1.trans gb) ((B _ (List.getElem_mem hx)).grow gb.del) (flat5 trivial (B2 _ (List.getElem_mem hx)) trivial trivial hf)
  refine Br.f (by simp [q3]) ?_
  repeat k_extra "m"
  by_cases q4 : way = 4
  · refine Br.t (by simp [q4]) ?_
    repeat k_extra "m"
    intro d1 hd1
    have nd1 : d1 ≠ l := ne_l hl g1 hd1
    have Gd1 : Grow σ1 (σ1.upd d1 (.list [])) := Grow.rfl'.fresh hd1
    have td1 : HasTy C ((σ1.upd d1 (.list [])).del l) (.ref d1) .list := .list (.inl (del_ne nd1 Store.hit))
    generalize Store.upd σ1 d1 _ = sd1 at Gd1 td1 ⊢
    replace g1 := g1.trans Gd1
    repeat k_extra "m"
    refine Ev.dict0 fun d2 hd2 => ?_
    have nd2 : d2 ≠ l := ne_l hl g1 hd2
    have Gd2 : Grow sd1 (sd1.upd d2 (.sd [])) := Grow.rfl'.fresh hd2
    have td2 : HasTy C ((sd1.upd d2 (.sd [])).del l) (.ref d2) .dict := .sd (del_ne nd2 Store.hit)
    generalize Store.upd sd1 d2 _ = sd2 at Gd2 td2 ⊢
    replace g1 := g1.trans Gd2
    replace td1 := td1.grow Gd2.del
    repeat k_extra "m"
    intro b hb
    have B : ∀ v ∈ ([.none, .str (Str.ofString "A"), .int 5, .str (Str.ofString " "), .ref d1, .ref d2] : List V), HV C (sd2.del l) (.tup [.str hn.name, .int hn.rank, v, .bool hn.once, x]) false := by
      rw [List.forall_mem_cons]
      refine ⟨?_, ?_⟩
      · exact .hearsT wn wi .none rfl
      rw [List.forall_mem_cons]
      refine ⟨?_, ?_⟩
      · exact .hearsW wn wi (by decide +kernel) (by decide +kernel) (by decide +kernel)
      rw [List.forall_mem_cons]
      refine ⟨?_, ?_⟩
      · exact .hearsT wn wi (.int _) rfl
      rw [List.forall_mem_cons]
      refine ⟨?_, ?_⟩
      · exact .hearsW wn wi (by decide +kernel) (by decide +kernel) (by decide +kernel)
      rw [List.forall_mem_cons]
      refine ⟨?_, ?_⟩
      · exact .hearsT wn wi td1 rfl
      rw [List.forall_mem_cons]
      refine ⟨?_, ?_⟩
      · exact .hearsT wn wi td2 rfl
      exact fun _ z => by cases z
    have B2 : ∀ v ∈ ([.none, .str (Str.ofString "A"), .int 5, .str (Str.ofString " "), .ref d1, .ref d2] : List V), V.flat 2 v := by
      rw [List.forall_mem_cons]
      refine ⟨?_, ?_⟩
      · exact trivial
      rw [List.forall_mem_cons]
      refine ⟨?_, ?_⟩
      · exact trivial
      rw [List.forall_mem_cons]
      refine ⟨?_, ?_⟩
      · exact trivial
      rw [List.forall_mem_cons]
      refine ⟨?_, ?_⟩
      · exact trivial
      rw [List.forall_mem_cons]
      refine ⟨?_, ?_⟩
      · exact trivial
      rw [List.forall_mem_cons]
      refine ⟨?_, ?_⟩
      · exact trivial
      exact fun _ z => by cases z
    have l2 : ([.none, .str (Str.ofString "A"), .int 5, .str (Str.ofString " "), .ref d1, .ref d2] : List V).length = 6 := rfl
    have fb : (Store.upd sd2 b (.list [.none, .str (Str.ofString "A"), .int 5, .str (Str.ofString " "), .ref d1, .ref d2])) b = some (.list [.none, .str (Str.ofString "A"), .int 5, .str (Str.ofString " "), .ref d1, .ref d2]) := Store.hit
    have gb : Grow sd2 (Store.upd sd2 b (.list [.none, .str (Str.ofString "A"), .int 5, .str (Str.ofString " "), .ref d1, .ref d2])) := Grow.rfl'.fresh hb
    generalize Store.upd sd2 b _ = sb at fb gb ⊢
    generalize ([.none, .str (Str.ofString "A"), .int 5, .str (Str.ofString " "), .ref d1, .ref d2] : List V) = ws at B B2 l2 fb
    repeat k_extra "m"
    have m0 : 0 ≤ k.fmod 6 := Int.fmod_nonneg_of_pos _ (by (first | lia | omega))
    have m1 : k.fmod 6 < 6 := Int.fmod_lt_of_pos _ (by (first | lia | omega))
    have hx : (k.fmod 6).toNat < ws.length := by (first | lia | omega)
    refine ItemWP.list (y := ws[(k.fmod 6).toNat]) (.inl fb) m0 (by (first | lia | omega)) (List.getElem?_eq_getElem hx) ?_
    repeat k_extra "m"
    exact h _ _ (g1.trans gb) ((B _ (List.getElem_mem hx)).grow gb.del) (flat5 trivial trivial (B2 _ (List.getElem_mem hx)) trivial hf)
  refine Br.f (by simp [q4]) ?_
  repeat k_extra "m"
  by_cases q5 : way = 5
  · refine Br.t (by simp [q5]) ?_
    repeat k_extra "m"
    intro d1 hd1
    have nd1 : d1 ≠ l := ne_l hl g1 hd1
    have Gd1 : Grow σ1 (σ1.upd d1 (.list [])) := Grow.rfl'.fresh hd1
    have td1 : HasTy C ((σ1.upd d1 (.list [])).del l) (.ref d1) .list := .list (.inl (del_ne nd1 Store.hit))
    generalize Store.upd σ1 d1 _ = sd1 at Gd1 td1 ⊢
    replace g1 := g1.trans Gd1
    repeat k_extra "m"
    refine Ev.dict0 fun d2 hd2 => ?_
    have nd2 : d2 ≠ l := ne_l hl g1 hd2
    have Gd2 : Grow sd1 (sd1.upd d2 (.sd [])) := Grow.rfl'.fresh hd2
    have td2 : HasTy C ((sd1.upd d2 (.sd [])).del l) (.ref d2) .dict := .sd (del_ne nd2 Store.hit)
    generalize Store.upd sd1 d2 _ = sd2 at Gd2 td2 ⊢
    replace g1 := g1.trans Gd2
    replace td1 := td1.grow Gd2.del
    repeat k_extra "m"
    intro b hb
    have B : ∀ v ∈ ([.int 1, .int 0, .none, .ref d1, .ref d2] : List V), HV C (sd2.del l) (.tup [.str hn.name, .int hn.rank, .str hn.hears, v, x]) false := by
      rw [List.forall_mem_cons]
      refine ⟨?_, ?_⟩
      · exact .once wn wi H.hears (.int _) rfl
      rw [List.forall_mem_cons]
      refine ⟨?_, ?_⟩
      · exact .once wn wi H.hears (.int _) rfl
      rw [List.forall_mem_cons]
      refine ⟨?_, ?_⟩
      · exact .once wn wi H.hears .none rfl
      rw [List.forall_mem_cons]
      refine ⟨?_, ?_⟩
      · exact .once wn wi H.hears td1 rfl
      rw [List.forall_mem_cons]
      refine ⟨?_, ?_⟩
      · exact .once wn wi H.hears td2 rfl
      exact fun _ z => by cases z
    have B2 : ∀ v ∈ ([.int 1, .int 0, .none, .ref d1, .ref d2] : List V), V.flat 2 v := by
      rw [List.forall_mem_cons]
      refine ⟨?_, ?_⟩
      · exact trivial
      rw [List.forall_mem_cons]
      refine ⟨?_, ?_⟩
      · exact trivial
      rw [List.forall_mem_cons]
      refine ⟨?_, ?_⟩
      · exact trivial
      rw [List.forall_mem_cons]
      refine ⟨?_, ?_⟩
      · exact trivial
      rw [List.forall_mem_cons]
      refine ⟨?_, ?_⟩
      · exact trivial
      exact fun _ z => by cases z
    have l2 : ([.int 1, .int 0, .none, .ref d1, .ref d2] : List V).length = 5 := rfl
    have fb : (Store.upd sd2 b (.list [.int 1, .int 0, .none, .ref d1, .ref d2])) b = some (.list [.int 1, .int 0, .none, .ref d1, .ref d2]) := Store.hit
    have gb : Grow sd2 (Store.upd sd2 b (.list [.int 1, .int 0, .none, .ref d1, .ref d2])) := Grow.rfl'.fresh hb
    generalize Store.upd sd2 b _ = sb at fb gb ⊢
    generalize ([.int 1, .int 0, .none, .ref d1, .ref d2] : List V) = ws at B B2 l2 fb
    repeat k_extra "m"
    have m0 : 0 ≤ k.fmod 5 := Int.fmod_nonneg_of_pos _ (by (first | lia | omega))
    have m1 : k.fmod 5 < 5 := Int.fmod_lt_of_pos _ (by (first | lia | omega))
    have hx : (k.fmod 5).toNat < ws.length := by (first | lia | omega)
    refine ItemWP.list (y := ws[(k.fmod 5).toNat]) (.inl fb) m0 (by (first | lia | omega)) (List.getElem?_eq_getElem hx) ?_
    repeat k_extra "m"
    exact h _ _ (g1.trans gb) ((B _ (List.getElem_mem hx)).grow gb.del) (flat5 trivial trivial trivial (B2 _ (List.getElem_mem hx)) hf)
  refine Br.f (by simp [q5]) ?_
  repeat k_extra "m"
  by_cases q6 : way = 6
  · refine Br.t (by simp [q6]) ?_
    repeat k_extra "m"
    intro b hb
    have B : ∀ v ∈ ([.str (Str.ofString "now"), .none, .tup [.str (Str.ofString "hush")]] : List V), HV C (σ1.del l) (.tup [.str hn.name, .int hn.rank, .str hn.hears, .bool hn.once, v]) false := by
      rw [List.forall_mem_cons]
      refine ⟨?_, ?_⟩
      · exact .deedsT wn wi H.hears (.str _) (.inl rfl)
      rw [List.forall_mem_cons]
      refine ⟨?_, ?_⟩
      · exact .deedsT wn wi H.hears .none (.inr rfl)
      rw [List.forall_mem_cons]
      refine ⟨?_, ?_⟩
      · exact .deeds (ds := [(.str (Str.ofString "hush"), false)]) wn wi H.hears (.inr rfl) (by simp) (fun p hp => by rw [List.mem_singleton.mp hp]; exact .notup (.str _) rfl)
      exact fun _ z => by cases z
    have B2 : ∀ v ∈ ([.str (Str.ofString "now"), .none, .tup [.str (Str.ofString "hush")]] : List V), V.flat 2 v := by
      rw [List.forall_mem_cons]
      refine ⟨?_, ?_⟩
      · exact trivial
      rw [List.forall_mem_cons]
      refine ⟨?_, ?_⟩
      · exact trivial
      rw [List.forall_mem_cons]
      refine ⟨?_, ?_⟩
      · exact (fun z hz => by rw [List.mem_singleton.mp hz]; trivial)
      exact fun _ z => by cases z
    have l2 : ([.str (Str.ofString "now"), .none, .tup [.str (Str.ofString "hush")]] : List V).length = 3 := rfl
    have fb : (Store.upd σ1 b (.list [.str (Str.ofString "now"), .none, .tup [.str (Str.ofString "hush")]])) b = some (.list [.str (Str.ofString "now"), .none, .tup [.str (Str.ofString "hush")]]) := Store.hit
    have gb : Grow σ1 (Store.upd σ1 b (.list [.str (Str.ofString "now"), .none, .tup [.str (Str.ofString "hush")]])) := Grow.rfl'.fresh hb
    generalize Store.upd σ1 b _ = sb at fb gb ⊢
    generalize ([.str (Str.ofString "now"), .none, .tup [.str (Str.ofString "hush")]] : List V) = ws at B B2 l2 fb
    repeat k_extra "m"
    have m0 : 0 ≤ k.fmod 3 := Int.fmod_nonneg_of_pos _ (by (first | lia | omega))
    have m1 : k.fmod 3 < 3 := Int.fmod_lt_of_pos _ (by (first | lia | omega))
    have hx : (k.fmod 3).toNat < ws.length := by (first | lia | omega)
    refine ItemWP.list (y := ws[(k.fmod 3).toNat]) (.inl fb) m0 (by (first | lia | omega)) (List.getElem?_eq_getElem hx) ?_
    repeat k_extra "m"
    exact h _ _ (g1.trans gb) ((B _ (List.getElem_mem hx)).grow gb.del) (flat5 trivial trivial trivial trivial (B2 _ (List.getElem_mem hx)))
  refine Br.f (by simp [q6]) ?_
  repeat k_extra "m"
  refine c_bad_deed hK (by (first | lia | omega)) hh' hk hl fun v σ2 g2 hv => ?_
  repeat k_extra "m"
  intro b hb
  have nb : b ≠ l := ne_l hl g2 hb
  have gb : Grow σ2 (σ2.upd b (.list [Deed.v .hush, v, Deed.v (.now (Str.ofString "a"))])) := Grow.rfl'.fresh hb
  have fb : (σ2.upd b (.list [Deed.v .hush, v, Deed.v (.now (Str.ofString "a"))])) b = some (.list [Deed.v .hush, v, Deed.v (.now (Str.ofString "a"))]) := Store.hit
  show Ags C A' _ _ _ _ (σ2.upd b (.list [Deed.v .hush, v, Deed.v (.now (Str.ofString "a"))])) _ _
  generalize Store.upd σ2 b _ = sb at fb gb ⊢
  repeat k_extra "m"
  refine h _ _ (g2.trans gb) ?_ (flat5 trivial trivial trivial trivial trivial)
  have D : HV C (sb.del l) (.tup [.str hn.name, .int hn.rank, .str hn.hears, .bool hn.once, .ref b]) (decide (([(Deed.v .hush, true), (v, false), (Deed.v (.now (Str.ofString "a")), true)] : List (V × Bool)).length ≤ 30) && ([(Deed.v .hush, true), (v, false), (Deed.v (.now (Str.ofString "a")), true)] : List (V × Bool)).all (·.2)) := by
    refine .deeds wn wi H.hears (.inl ⟨b, rfl, del_ne nb fb⟩) (by simp) ?_
    rw [List.forall_mem_cons]
    refine ⟨.other (by decide +kernel) (by decide +kernel) (strOk_ofString _) (by simp), ?_⟩
    rw [List.forall_mem_cons]
    refine ⟨hv.grow gb.del, ?_⟩
    rw [List.forall_mem_cons]
    exact ⟨.word (by decide +kernel) (.inl ⟨_, rfl, by decide +kernel, isW_a⟩), fun _ z => by cases z⟩
  exact D

theorem pySlice_cut {α : Type} (xs : List α) (k : Nat) : pySlice xs none (some (k : Int)) = xs.take k := by
  by_cases h : k ≤ xs.length
  · exact pySlice_upto xs k h
  unfold pySlice
  have e : sliceBounds none (some (k : Int)) none xs.length = (((0 : Nat) : Int), ((xs.length : Nat) : Int), 1) := by
    simp only [sliceBounds, Option.getD_none]
    have : ¬ ((k : Int) < 0) := by (first | lia | omega)
    simp [this]; (first | lia | omega)
  rw [e]
  simp only
  rw [sliceRange_one, pick_range xs 0 (xs.length - 0) (by (first | lia | omega)), List.drop_zero, List.take_of_length_le (by (first | lia | omega)), List.take_of_length_le (by (first | lia | omega))]
theorem del_upd {σ : Store} {l : Addr} {o : O} : (σ.upd l o).del l = σ.del l := by
  funext b
  unfold Store.del Store.upd
  split <;> rfl
/-- its last deed is a stranger's -/
def Far (hn : Hn) : Prop := hn.ds.length ≤ 30 ∧ ∃ d ∈ hn.ds, ∀ kn : List Str, kn.contains (Str.ofString "nobody") = false → odd kn d = true
theorem isW_nobody : isW (Str.ofString "nobody") = true := by decide +kernel
theorem c_estranged (hK : C.K = KL C.w.params) {hn : Hn} {x : V} {c j : Nat} {cell : Int} {l : Addr} {o : O} {Q : V → Store → Prop} (hr : A.depth < recursionLimit) (hh : A.handled = none) (H : HBy c j hn) (hl : σ l = some o) (hx : Holds C (σ.del l) x (hn.ds.map Deed.v))
    (h : ∀ hn' x' σ', Grow σ σ' → HBy c j hn' → Far hn' → Holds C (σ'.del l) x' (hn'.ds.map Deed.v) → Q (hn'.tv x') σ') : CallWP C A (.ref 388) [hn.tv x, .int cell] σ Q X := by
  have tv : ∀ {A' : Around} {Q3 : V → Store → Prop} {X3 : XP}, (∀ a, σ a = none → Q3 (.ref a) (σ.upd a (.list (hn.ds.map Deed.v)))) → CallWP C A' (.type "list") [x] σ Q3 X3 := by
    intro A' Q3 X3 hq
    have := H.len
    rcases hx with ⟨l', rfl, z2⟩ | rfl
    · exact CallWP.listOf (.inl (Grow.ofDel _ _ z2)) (by simp [sizeLine_eq]; (first | lia | omega)) hq
    · exact CallWP.listOfTup (by simp [sizeLine_eq]; (first | lia | omega)) hq
  k_extra "mdef2"
  intro L A' a1 a2 a3
  have hh' : A'.handled = none := a1.trans hh
  simp only [Hn.tv]
  repeat k_extra "m"
  refine tv fun a ha => ?_
  repeat k_extra "m"
  refine ⟨_, rfl, ?_⟩
  refine SliceWP.list (.inl Store.hit) (by have := H.len; simp [sizeLine_eq]; (first | lia | omega)) fun b hb => ?_
  have e29 : ∀ xs : List V, pySlice xs none (some 29) = xs.take 29 := fun xs => pySlice_cut xs 29
  rw [e29]
  have gb : Grow σ ((σ.upd a (.list (hn.ds.map Deed.v))).upd b (.list ((hn.ds.map Deed.v).take 29))) := (Grow.rfl'.fresh ha).fresh hb
  have fb : ((σ.upd a (.list (hn.ds.map Deed.v))).upd b (.list ((hn.ds.map Deed.v).take 29))) b = some (.list ((hn.ds.take 29).map Deed.v)) := by rw [List.map_take]; exact Store.hit
  generalize Store.upd _ b _ = σ1 at gb fb ⊢
  repeat k_extra "m"
  intro d hd
  have m0 : 0 ≤ cell.fmod 2 := Int.fmod_nonneg_of_pos _ (by (first | lia | omega))
  have m1 : cell.fmod 2 < 2 := Int.fmod_lt_of_pos _ (by (first | lia | omega))
  repeat k_extra "m"
  obtain ⟨w, dd, e1, e2, e3, e4⟩ : ∃ (w : Str) (dd : Deed), ([V.str (Str.ofString "join"), .str (Str.ofString "leave")] : List V)[(cell.fmod 2).toNat]? = some (.str w) ∧ Deed.v dd = .tup [.str w, .str (Str.ofString "nobody")] ∧ dd.Good ∧ ∀ kn : List Str, kn.contains (Str.ofString "nobody") = false → odd kn dd = true := by
    rcases (by (first | lia | omega) : cell.fmod 2 = 0 ∨ cell.fmod 2 = 1) with q | q
    · rw [q]; exact ⟨_, .join (Str.ofString "nobody"), rfl, rfl, isW_nobody, fun kn z => by simp only [odd, z]; rfl⟩
    · rw [q]; exact ⟨_, .leave (Str.ofString "nobody"), rfl, rfl, isW_nobody, fun kn z => by simp only [odd, z]; rfl⟩
  refine ItemWP.list (y := .str w) (.inl Store.hit) m0 (by (first | lia | omega)) e1 ?_
  repeat k_extra "m"
  rw [← e2]
  intro e he
  repeat k_extra "m"
  refine BinWP.cat (xs := (hn.ds.take 29).map Deed.v) (ys := [Deed.v dd]) (.inl (Store.at_fresh he (Store.at_fresh hd fb))) (.inl Store.hit) (by simp [sizeLine_eq]; (first | lia | omega)) ?_
  intro f hf
  have gf := (((gb.fresh (o := .list [V.str (Str.ofString "join"), .str (Str.ofString "leave")]) hd).fresh (o := .list [Deed.v dd]) he))
  have nf : f ≠ l := ne_l hl gf hf
  repeat k_extra "m"
  have ll : ((hn.ds.take 29) ++ [dd]).length ≤ 30 := by simp; (first | lia | omega)
  refine h ⟨hn.name, hn.rank, hn.hears, hn.once, hn.ds.take 29 ++ [dd]⟩ (.ref f) _ (gf.fresh hf) ⟨H.name, H.hears, Nat.le_trans ll (by decide), fun d' hd' => ?_⟩ ⟨ll, dd, by simp, e4⟩ (.inl ⟨f, rfl, ?_⟩)
  · rcases List.mem_append.mp hd' with z | z
    · exact H.ds _ (List.mem_of_mem_take z)
    · rw [List.mem_singleton.mp z]; exact e3
  · rw [List.map_append]; exact del_ne nf Store.hit

/-- what is due -/
def due4 (wr p : Nat) (st : Bool) : Nat → List (Hn × V) → Str
  | _, [] => if st then Str.ofString "stranger" else Str.ofString "none"
  | k, h :: r => if k = 40 ∨ (wr = 1 ∧ k = p) ∨ (30 < h.1.ds.length ∧ ¬ (0 < wr ∧ k = p)) then Str.ofString "handler" else if wr = 2 ∧ k = p then Str.ofString "twice" else due4 wr p st (k + 1) r
theorem due4_cons (wr p : Nat) (st : Bool) (k : Nat) (h : Hn × V) (r : List (Hn × V)) : due4 wr p st k (h :: r) = if k = 40 ∨ (wr = 1 ∧ k = p) ∨ (30 < h.1.ds.length ∧ ¬ (0 < wr ∧ k = p)) then Str.ofString "handler" else if wr = 2 ∧ k = p then Str.ofString "twice" else due4 wr p st (k + 1) r := rfl
theorem Holds.lenW {x : V} {xs : List V} {Q : V → Store → Prop} (hx : Holds C σ x xs) (hz : xs.length ≤ 1000) (h : Q (.int (xs.length : Int)) σ) : CallWP C A (.builtin "len") [x] σ Q X := by
  rcases hx with ⟨l, rfl, e⟩ | rfl
  · exact BltWP.len_list (.inl e) (by (first | lia | omega)) h
  · exact CallWP.len_tup (by (first | lia | omega)) h
theorem c_due (hK : C.K = KL C.w.params) {l : Addr} {hs : List (Hn × V)} {wr p : Nat} {st : Bool} {Q : V → Store → Prop} (hr : A.depth < recursionLimit) (hh : A.handled = none) (hl : σ l = some (.list (hs.map fun p => p.1.tv p.2))) (hz : hs.length ≤ 41) (hd : ∀ q ∈ hs, q.1.ds.length ≤ 31 ∧ Holds C σ q.2 (q.1.ds.map Deed.v)) (hw : wr ≤ 2)
    (h : Q (.str (due4 wr p st 0 hs)) σ) : CallWP C A (.ref 381) [.ref l, .int (wr : Int), .int (p : Int), .bool st] σ Q X := by
  k_extra "mdef4"
  intro fL A' a1 a2 a3
  have hh' : A'.handled = none := a1.trans hh
  repeat k_extra "m"
  refine ⟨_, _, ItV.rng hh' (by (first | lia | omega)) (by (first | lia | omega)) (by simp <;> (first | lia | omega)) (by simp <;> (first | lia | omega)), ?_⟩
  have er : irange 0 (((hs.map fun p => p.1.tv p.2).length : Nat) : Int) = (List.range' 0 hs.length).map fun (i : Nat) => V.int (i : Int) := by
    unfold irange
    rw [List.range_eq_range', List.length_map]
    simp
  rw [er]
  refine ForL.inv (fun (i : Nat) => V.int (i : Int)) (fun rest ρ σ1 => ∃ (dn r : List (Hn × V)), dn ++ r = hs ∧ rest = List.range' dn.length r.length ∧ due4 wr p st 0 hs = due4 wr p st dn.length r ∧ σ1 = σ ∧ ρ.get "_law_handlers" = some (.ref l) ∧ ρ.get "_law_wrong_here" = some (.int (wr : Int)) ∧ ρ.get "_law_place" = some (.int (p : Int)) ∧ ρ.get "_law_strange" = some (.bool st)) ?_ ?_ _ _ _ ⟨[], hs, rfl, rfl, rfl, rfl, by k_extra "mget", by k_extra "mget", by k_extra "mget", by k_extra "mget"⟩
  · rintro i is ρ σ1 ⟨dn, r, e1, e2, e3, rfl, r1, r2, r3, r4⟩
    cases r with
    | nil => cases e2
    | cons q r =>
    rw [List.length_cons, List.range'_succ] at e2
    obtain ⟨rfl, rfl⟩ := List.cons.inj e2
    obtain ⟨d1, d2⟩ := hd q (by rw [← e1]; simp)
    have hlen : dn.length + r.length + 1 = hs.length := by rw [← e1]; simp; (first | lia | omega)
    rw [due4_cons] at e3
    have go : ¬ (dn.length = 40 ∨ (wr = 1 ∧ dn.length = p) ∨ (30 < q.1.ds.length ∧ ¬ (0 < wr ∧ dn.length = p))) → ¬ (wr = 2 ∧ dn.length = p) → due4 wr p st 0 hs = due4 wr p st (dn ++ [q]).length r := fun n1 n2 => by
      rw [e3, if_neg n1, if_neg n2, List.length_append]; rfl
    have hand : (dn.length = 40 ∨ (wr = 1 ∧ dn.length = p) ∨ (30 < q.1.ds.length ∧ ¬ (0 < wr ∧ dn.length = p))) → Q (.str (Str.ofString "handler")) σ1 := fun n1 => by
      rw [e3, if_pos n1] at h; exact h
    have twice : ¬ (dn.length = 40 ∨ (wr = 1 ∧ dn.length = p) ∨ (30 < q.1.ds.length ∧ ¬ (0 < wr ∧ dn.length = p))) → (wr = 2 ∧ dn.length = p) → Q (.str (Str.ofString "twice")) σ1 := fun n1 n2 => by
      rw [e3, if_neg n1, if_pos n2] at h; exact h
    have len : ∀ {Q2 : V → Store → Prop} {X2 : XP}, Q2 (.int (q.1.ds.length : Int)) σ1 → CallWP C A' (.builtin "len") [q.2] σ1 Q2 X2 := fun hQ => d2.lenW (by simp; (first | lia | omega)) (by simpa using hQ)
    have it : ∀ {Q2 : V → Store → Prop} {X2 : XP}, Q2 (.tup [.str q.1.name, .int q.1.rank, .str q.1.hears, .bool q.1.once, q.2]) σ1 → ItemWP C A' (.ref l) (.int (dn.length : Int)) σ1 Q2 X2 := fun hQ => ItemWP.list (.inl hl) (by (first | lia | omega)) (by (first | lia | omega)) (by rw [← e1]; simp [Hn.tv]) hQ
    repeat k_extra "m"
    by_cases q40 : dn.length = 40
    · refine Br.t (by simp; (first | lia | omega)) ?_
      repeat k_extra "m"
      exact hand (.inl q40)
    refine Br.f (by simp; (first | lia | omega)) ?_
    by_cases kp : dn.length = p
    · rcases (by (first | lia | omega) : wr = 0 ∨ wr = 1 ∨ wr = 2) with rfl | rfl | rfl
      · repeat k_extra "m"
        refine it ?_
        repeat k_extra "m"
        refine len ?_
        repeat k_extra "m"
        by_cases q30 : 30 < q.1.ds.length
        · refine Br.t (by simp; (first | lia | omega)) ?_
          repeat k_extra "m"
          exact hand (by (first | lia | omega))
        · refine Br.f (by simp; (first | lia | omega)) ?_
          repeat k_extra "m"
          exact ⟨trivial, dn ++ [q], r, by rw [← e1]; simp, by simp, go (by (first | lia | omega)) (by (first | lia | omega)), rfl, by k_extra "mget", by k_extra "mget", by k_extra "mget", by k_extra "mget"⟩
      · repeat k_extra "m"
        refine Br.t (by simp; (first | lia | omega)) ?_
        repeat k_extra "m"
        exact hand (by (first | lia | omega))
      · repeat k_extra "m"
        refine it ?_
        repeat k_extra "m"
        refine len ?_
        repeat k_extra "m"
        by_cases q30 : 30 < q.1.ds.length
        · refine Br.t (by simp; (first | lia | omega)) ?_
          repeat k_extra "m"
          refine Br.t (by simp; (first | lia | omega)) ?_
          repeat k_extra "m"
          refine Br.t (by simp; (first | lia | omega)) ?_
          repeat k_extra "m"
          exact twice (by (first | lia | omega)) (by (first | lia | omega))
        · refine Br.f (by simp; (first | lia | omega)) ?_
          repeat k_extra "m"
          refine Br.t (by simp; (first | lia | omega)) ?_
          repeat k_extra "m"
          exact twice (by (first | lia | omega)) (by (first | lia | omega))
    · rcases (by (first | lia | omega) : wr = 0 ∨ wr = 1 ∨ wr = 2) with rfl | rfl | rfl
      · repeat k_extra "m"
        refine it ?_
        repeat k_extra "m"
        refine len ?_
        repeat k_extra "m"
        by_cases q30 : 30 < q.1.ds.length
        · refine Br.t (by simp; (first | lia | omega)) ?_
          repeat k_extra "m"
          exact hand (by (first | lia | omega))
        · refine Br.f (by simp; (first | lia | omega)) ?_
          repeat k_extra "m"
          exact ⟨trivial, dn ++ [q], r, by rw [← e1]; simp, by simp, go (by (first | lia | omega)) (by (first | lia | omega)), rfl, by k_extra "mget", by k_extra "mget", by k_extra "mget", by k_extra "mget"⟩
      · repeat k_extra "m"
        refine Br.f (by simp; (first | lia | omega)) ?_
        repeat k_extra "m"
        refine it ?_
        repeat k_extra "m"
        refine len ?_
        repeat k_extra "m"
        by_cases q30 : 30 < q.1.ds.length
        · refine Br.t (by simp; (first | lia | omega)) ?_
          repeat k_extra "m"
          refine Br.f (by simp; (first | lia | omega)) ?_
          repeat k_extra "m"
          exact hand (by (first | lia | omega))
        · refine Br.f (by simp; (first | lia | omega)) ?_
          repeat k_extra "m"
          exact ⟨trivial, dn ++ [q], r, by rw [← e1]; simp, by simp, go (by (first | lia | omega)) (by (first | lia | omega)), rfl, by k_extra "mget", by k_extra "mget", by k_extra "mget", by k_extra "mget"⟩
      · repeat k_extra "m"
        refine it ?_
        repeat k_extra "m"
        refine len ?_
        repeat k_extra "m"
        by_cases q30 : 30 < q.1.ds.length
        · refine Br.t (by simp; (first | lia | omega)) ?_
          repeat k_extra "m"
          refine Br.f (by simp; (first | lia | omega)) ?_
          repeat k_extra "m"
          exact hand (by (first | lia | omega))
        · refine Br.f (by simp; (first | lia | omega)) ?_
          repeat k_extra "m"
          refine Br.f (by simp; (first | lia | omega)) ?_
          repeat k_extra "m"
          exact ⟨trivial, dn ++ [q], r, by rw [← e1]; simp, by simp, go (by (first | lia | omega)) (by (first | lia | omega)), rfl, by k_extra "mget", by k_extra "mget", by k_extra "mget", by k_extra "mget"⟩
  · rintro ρ σ1 ⟨dn, r, e1, e2, e3, rfl, r1, r2, r3, r4⟩
    cases r with
    | cons q r => cases e2
    | nil =>
    rw [e3] at h
    cases st with
    | true =>
      repeat k_extra "m"
      exact h
    | false =>
      repeat k_extra "m"
      exact h

theorem DV.good {d : Deed} (h : d.Good) : DV C σ d.v true := by
  cases d with
  | now w => exact .word (by decide +kernel) (.inl ⟨_, rfl, by have := isW_len h; (first | lia | omega), h⟩)
  | soon w => exact .word (by decide +kernel) (.inl ⟨_, rfl, by have := isW_len h; (first | lia | omega), h⟩)
  | cancel w => exact .word (by decide +kernel) (.inl ⟨_, rfl, by have := isW_len h; (first | lia | omega), h⟩)
  | join w => exact .word (by decide +kernel) (.inl ⟨_, rfl, by have := isW_len h; (first | lia | omega), h⟩)
  | leave w => exact .word (by decide +kernel) (.inl ⟨_, rfl, by have := isW_len h; (first | lia | omega), h⟩)
  | wait t w => exact .wait h.1 h.2.1 (.inl ⟨_, rfl, by have := isW_len h.2.2; (first | lia | omega), h.2.2⟩)
  | hush => exact .other (by decide +kernel) (by decide +kernel) (strOk_ofString _) (by simp)
theorem HBy.hv {c j : Nat} {hn : Hn} {x : V} (H : HBy c j hn) (hj : j < 41) (hx : Holds C σ x (hn.ds.map Deed.v)) : HV C σ (hn.tv x) (decide (hn.ds.length ≤ 30)) := by
  have hw : isW hn.name = true := by rw [H.name]; exact nameN_isW c j (by (first | lia | omega))
  have e : (decide ((hn.ds.map fun d => (Deed.v d, true)).length ≤ 30) && (hn.ds.map fun d => (Deed.v d, true)).all (·.2)) = decide (hn.ds.length ≤ 30) := by
    rw [List.length_map, show (hn.ds.map fun d => (Deed.v d, true)).all (·.2) = true by simp, Bool.and_true]
  rw [← e]
  refine .deeds (.inl ⟨_, rfl, by have := isW_len hw; (first | lia | omega), hw⟩) ⟨_, .int _, rfl⟩ H.hears (by rw [List.map_map]; exact hx) (by have := H.len; simp; (first | lia | omega)) fun p hp => ?_
  obtain ⟨d, hd, rfl⟩ := List.mem_map.mp hp
  exact DV.good (H.ds d hd)
/-- how the law's handlers lie -/
def Cast4 (C : Cx) (σ : Store) (c : Nat) (hs : List (Hn × V)) : Prop := hs.length = c ∧ ∀ (i : Nat) (h : i < hs.length), HBy c i hs[i].1 ∧ Holds C σ hs[i].2 (hs[i].1.ds.map Deed.v)
theorem Cast4.grow {σ' : Store} {c : Nat} {hs : List (Hn × V)} (h : Cast4 C σ c hs) (g : Grow σ σ') : Cast4 C σ' c hs := ⟨h.1, fun i hi => ⟨(h.2 i hi).1, (h.2 i hi).2.grow g⟩⟩
theorem Cast4.mem {c : Nat} {hs : List (Hn × V)} (h : Cast4 C σ c hs) {p : Hn × V} (hp : p ∈ hs) : ∃ j, j < c ∧ HBy c j p.1 ∧ Holds C σ p.2 (p.1.ds.map Deed.v) := by
  obtain ⟨j, hj, rfl⟩ := List.getElem_of_mem hp
  exact ⟨j, by rw [← h.1]; exact hj, h.2 j hj⟩
theorem c_kinds (hK : C.K = KL C.w.params) {l : Addr} {c : Nat} {hs : List (Hn × V)} {Q : V → Store → Prop} (hr : A.depth + 3 < recursionLimit) (hh : A.handled = none) (hu : A.units < 6000) (hl : σ l = some (.list (hs.map fun p => p.1.tv p.2))) (hc : c ≤ 41) (hd : Cast4 C σ c hs) (h : ∀ σ', Grow σ σ' → Q (.bool true) σ') : CallWP C A (.ref 395) [.ref l] σ Q X := by
  have hr0 : A.depth < recursionLimit := by (first | lia | omega)
  k_extra "mdef1"
  intro fL A' a1 a2 a3
  have hh' : A'.handled = none := a1.trans hh
  repeat k_extra "m"
  refine ⟨_, _, ItV.list hh' (.inl hl), ?_⟩
  refine ForL.inv (fun p : Hn × V => p.1.tv p.2) (fun rest ρ σ1 => (∀ p ∈ rest, p ∈ hs) ∧ Grow σ σ1) ?_ ?_ _ _ _ ⟨fun _ z => z, Grow.rfl'⟩
  · rintro ⟨hn, x⟩ r ρ σ1 ⟨e1, g1⟩
    obtain ⟨j, hj, H, hx⟩ := hd.mem (e1 _ (.head _))
    have hv := H.hv (by (first | lia | omega)) hx
    dsimp only at H hx hv
    have hlen := H.len
    repeat k_extra "m"
    refine c_hv hK (by (first | lia | omega)) hh' (by (first | lia | omega)) (hv.grow g1) fun σ2 g2 => ?_
    repeat k_extra "m"
    refine c_hv hK (by (first | lia | omega)) hh' (by (first | lia | omega)) ((hv.grow g1).grow g2) fun σ3 g3 => ?_
    simp only [Hn.tv]
    repeat k_extra "m"
    refine (((hx.grow g1).grow g2).grow g3).lenW (by simp; (first | lia | omega)) ?_
    repeat k_extra "m"
    refine CmpWP.ne_bool (by (first | lia | omega)) ?_
    have e : (decide (hn.ds.length ≤ 30) != decide ((((hn.ds.map Deed.v).length : Nat) : Int) ≤ 30)) = false := by
      rw [List.length_map]
      by_cases q : hn.ds.length ≤ 30
      · simp [q]; (first | lia | omega)
      · simp [q]; (first | lia | omega)
    rw [e]
    repeat k_extra "m"
    exact ⟨.inl (((g1.trans g2).trans g3) _ _ hl), fun p hp => e1 p (.tail _ hp), (g1.trans g2).trans g3⟩
  · rintro ρ σ1 ⟨_, g1⟩
    repeat k_extra "m"
    intro a ha
    repeat k_extra "m"
    intro b hb
    refine CmpWP.eqSelf (xs := [.int 40, .int 30, .int 1000000000]) (Store.at_fresh hb Store.hit) Store.hit (fun x hx => ?_) (by (first | lia | omega)) ?_
    · simp only [List.mem_cons, List.not_mem_nil, or_false] at hx
      rcases hx with rfl | rfl | rfl
      · exact EqI.dr (.int _) rfl (by simp only [PyData.depth]; (first | lia | omega))
      · exact EqI.dr (.int _) rfl (by simp only [PyData.depth]; (first | lia | omega))
      · exact EqI.dr (.int _) rfl (by simp only [PyData.depth]; (first | lia | omega))
    repeat k_extra "m"
    exact h _ ((g1.fresh ha).fresh hb)

/- the plain law: what is due is what the handlers' verdict says -/
def itm (wr p : Nat) (bad : V) (tw : Hn × V) (k : Nat) (q : Hn × V) : Itm := if wr = 1 ∧ k = p then (bad, none) else if wr = 2 ∧ k = p then encI tw else if 30 < q.1.ds.length then (q.1.tv q.2, none) else encI q
def itms (wr p : Nat) (bad : V) (tw : Hn × V) : Nat → List (Hn × V) → List Itm
  | _, [] => []
  | k, q :: r => itm wr p bad tw k q :: itms wr p bad tw (k + 1) r
def vS (st : Bool) (v : Nat) : Str := if v = 1 then Str.ofString "handler" else if v = 2 then Str.ofString "twice" else if st then Str.ofString "stranger" else Str.ofString "none"
theorem due_vrd {wr p : Nat} {bad : V} {tw : Hn × V} {st : Bool} (hw : wr ≤ 2) : ∀ (r : List (Hn × V)) (k : Nat) (seen : List Str), k + r.length ≤ 41 → (seen ++ r.map (·.1.name)).Nodup → (wr = 2 → k ≤ p ∧ 0 < p ∧ ∀ q : Str, (seen ++ r.map (·.1.name))[p - 1]? = some q → q = tw.1.name) → seen.length = k →
    due4 wr p st k r = vS st (vrd k seen (itms wr p bad tw k r))
  | [], k, seen, _, _, _, _ => by simp [due4, itms, vrd, vS]
  | q :: r, k, seen, hz, nd, h2, hs => by
    rw [due4_cons, itms]
    have hk : k ≤ 40 := by simp at hz; (first | lia | omega)
    by_cases q40 : k = 40
    · rw [if_pos (.inl q40)]
      have e : vrd k seen (itm wr p bad tw k q :: itms wr p bad tw (k + 1) r) = 1 := by
        generalize itm wr p bad tw k q = z
        obtain ⟨v, o⟩ := z
        cases o with
        | none => rfl
        | some x => rw [vrd_some, if_pos (by (first | lia | omega))]
      rw [e]; rfl
    by_cases c1 : wr = 1 ∧ k = p
    · rw [if_pos (.inr (.inl c1)), itm, if_pos c1]; rfl
    by_cases c2 : wr = 2 ∧ k = p
    · rw [if_neg (by (first | lia | omega)), if_pos c2, itm, if_neg c1, if_pos c2]
      obtain ⟨_, p0, hq⟩ := h2 c2.1
      have hin : tw.1.name ∈ seen := by
        have hlt : p - 1 < seen.length := by (first | lia | omega)
        have := hq seen[p - 1] (by rw [List.getElem?_append_left hlt, List.getElem?_eq_getElem hlt])
        rw [← this]; exact List.getElem_mem hlt
      rw [encI, vrd_some, if_neg (by (first | lia | omega)), if_pos (by simpa using hin)]; rfl
    by_cases c3 : 30 < q.1.ds.length
    · rw [if_pos (by (first | lia | omega)), itm, if_neg c1, if_neg c2, if_pos c3]; rfl
    have hn : q.1.name ∉ seen := by
      rw [List.nodup_append] at nd
      exact fun z => nd.2.2 _ z _ (by simp) rfl
    rw [if_neg (by (first | lia | omega)), if_neg c2, itm, if_neg c1, if_neg c2, if_neg c3, encI, vrd_some, if_neg (by (first | lia | omega)), if_neg (by simpa using hn)]
    refine due_vrd hw r (k + 1) (seen ++ [q.1.name]) (by simp at hz; (first | lia | omega)) (by simpa using nd) (fun w2 => ?_) (by simp; (first | lia | omega))
    obtain ⟨a, b, c⟩ := h2 w2
    exact ⟨by (first | lia | omega), b, by simpa using c⟩

theorem Cast4.good {c : Nat} {hs : List (Hn × V)} (Ca : Cast4 C σ c hs) (hc : c ≤ 41) (h30 : ∀ q ∈ hs, q.1.ds.length ≤ 30) : ∀ p ∈ hs, GoodH C σ p := by
  intro p hp
  obtain ⟨j, hj, H, hx⟩ := Ca.mem hp
  have hv := H.hv (by (first | lia | omega)) hx
  rw [decide_eq_true (h30 p hp)] at hv
  exact ⟨hv, hx, h30 p hp, by rw [H.name]; exact nameN_ok c j (by (first | lia | omega))⟩
theorem Holds.itv {target : Expr} {x : V} {xs : List V} (hx : Holds C σ x xs) (hh : A.handled = none) : ∃ ok, ItV C A target x σ xs ok ∧ ∀ σ2, Grow σ σ2 → ok σ2 := by
  rcases hx with ⟨l, rfl, e⟩ | rfl
  · exact ⟨_, ItV.list hh (.inl e), fun σ2 g => .inl (g _ _ e)⟩
  · exact ⟨_, ItV.tup hh, fun _ _ => trivial⟩
theorem Deed.flat (d : Deed) : V.flat 1 d.v := by
  cases d
  all_goals
    show ∀ x ∈ _, V.flat 0 x
    simp only [List.forall_mem_cons]
  all_goals first | exact ⟨trivial, trivial, fun _ z => by cases z⟩ | exact ⟨trivial, trivial, trivial, fun _ z => by cases z⟩ | exact ⟨trivial, fun _ z => by cases z⟩
theorem flat_ds (ds : List Deed) : V.flat 2 (.tup (ds.map Deed.v)) := by
  show ∀ x ∈ _, V.flat 1 x
  intro x hx
  obtain ⟨d, _, rfl⟩ := List.mem_map.mp hx
  exact d.flat
theorem Holds.flat {x : V} {ds : List Deed} (hx : Holds C σ x (ds.map Deed.v)) : V.flat 2 x := by
  rcases hx with ⟨l, rfl, _⟩ | rfl
  · trivial
  · exact flat_ds ds
theorem Hn.flat {hn : Hn} {x : V} (hx : V.flat 2 x) : V.flat 3 (hn.tv x) := flat5 trivial trivial trivial trivial hx
theorem f_let_by (hK : C.K = KL C.w.params) (hS : SysOk C) (hlo : C.loose) {ll : List Env} {bm : List Value} {newId B initId : String} (ON : OwnCls (Str.ofString "NoHandler") 56 bm newId C.mg C.h₀) (OT : OwnCls (Str.ofString "Twice") 68 bm newId C.mg C.h₀) (OS : OwnCls (Str.ofString "Stranger") 80 bm newId C.mg C.h₀) (FB : ExcBaseFacts B newId initId bm)
    {l : Addr} {p c : Nat} {hs : List (Hn × V)} {Q : V → Store → Prop} (hr : A.depth + 12 < recursionLimit) (hh : A.handled = none) (hu : A.units < 5700) (hfr : A.frames = some ll) (hl : σ l = some (.list (hs.map fun p => p.1.tv p.2))) (Ca : Cast4 C σ c hs) (hc : c ≤ 40) (h30 : ∀ q ∈ hs, q.1.ds.length ≤ 30)
    (ndp : (hs.map (·.1.name)).Nodup) (hno : ∀ q ∈ hs, ∀ d ∈ q.1.ds, odd (hs.map (·.1.name)) d = false) (hnb : (hs.map (·.1.name)).contains (Str.ofString "nobody") = false) (hp : p < hs.length)
    (h : ∀ σ', Grow σ σ' → Q (.bool true) σ') : CallF C A ll (.ref 400) [.ref l, .int (p : Int)] σ Q X := by
  have hr1 : A.depth < recursionLimit := by (first | lia | omega)
  have G := Ca.good (by (first | lia | omega)) h30
  have hlen : hs.length ≤ 40 := by rw [Ca.1]; exact hc
  refine' CallF.defK [Str.ofString "_law_handlers", Str.ofString "_law_place"] (by k_extra "mK") (by k_extra "mK") (by assumption) (by intro vals hl; obtain ⟨u1, t1, rfl, h1⟩ := lenS hl; obtain ⟨u2, t2, rfl, h2⟩ := lenS h1; obtain rfl := List.eq_nil_of_length_eq_zero h2; with_unfolding_all rfl) (by decide +kernel) (by kernel_rfl!) (by kernel_rfl!) (by rfl) (by rfl) (by rfl) hfr ?_
  intro L A' a1 a2 a3 a4
  have hh' : A'.handled = none := a1.trans hh
  rw [show List.zip [Str.ofString "_law_handlers", Str.ofString "_law_place"] [V.ref l, V.int (p : Int)] = [(Str.ofString "_law_handlers", V.ref l), (Str.ofString "_law_place", V.int (p : Int))] from rfl]
  with_reducible refine ExsO.step (fun ρ1 σ1 => ∃ g, Grow σ σ1 ∧ σ1 g = some (.list (hs.map fun p => p.1.tv p.2)) ∧ ρ1.get "_law_given" = some (.ref g) ∧ ρ1.get "_law_handlers" = some (.ref l) ∧ ρ1.get "_law_place" = some (.int (p : Int))) ?_ ?_
  · repeat k_extra "m"
    intro g hg
    repeat k_extra "m"
    exact ⟨rfl, g, Grow.rfl'.fresh hg, Store.hit, by k_extra "mget", by k_extra "mget", by k_extra "mget"⟩
  rintro ρ1 σ1 ⟨g, g1, f1, r1, r2, r3⟩
  have hl1 := g1 _ _ hl
  have hm : hs[p] ∈ hs := List.getElem_mem hp
  obtain ⟨j, hj, H, hx⟩ := Ca.mem hm
  have hq30 := h30 _ hm
  have it : ∀ {A2 : Around} {σ2 : Store} {Q2 : V → Store → Prop} {X2 : XP}, Grow σ σ2 → Q2 (hs[p].1.tv hs[p].2) σ2 → ItemWP C A2 (.ref l) (.int (p : Int)) σ2 Q2 X2 := fun g hQ => ItemWP.list (.inl (g _ _ hl)) (by (first | lia | omega)) (by (first | lia | omega)) (by simp [hp]) hQ
  have hvq := (G _ hm).hv
  generalize hs[p] = q at H hx hq30 it hvq hm
  obtain ⟨hn, x⟩ := q
  dsimp only at H hx hq30 it hvq
  refine ExsO.ite (TstO.or2 ?_)
  repeat k_extra "m"
  refine it g1 ?_
  simp only [Hn.tv]
  repeat k_extra "m"
  obtain ⟨ok, iv, okg⟩ := (hx.grow g1).itv (A := A') (target := _) hh'
  refine ⟨_, ok, iv, fun L' => ?_⟩
  refine CmpL.inv Deed.v (fun ys out σ2 => ∃ done, done ++ ys = hn.ds ∧ Grow σ1 σ2 ∧ out = (done.map fun _ => true).map V.bool) ?_ ?_ _ _ _ ⟨[], rfl, Grow.rfl', rfl⟩
  · rintro d ys out σ2 ⟨done, e, g2, rfl⟩
    have hd := H.ds d (by rw [← e]; simp)
    repeat k_extra "m"
    refine c_dv hK (by (first | lia | omega)) hh' (by (first | lia | omega)) (DV.good hd) fun σ3 g3 => ?_
    repeat k_extra "m"
    refine ⟨by have := H.len; have := congrArg List.length e; simp at this; simp [sizeLine_eq]; (first | lia | omega), okg _ (g2.trans g3), done ++ [d], by simpa using e, g2.trans g3, by simp⟩
  rintro out σ2 ⟨done, e, g2, rfl⟩
  intro a ha
  repeat k_extra "m"
  refine CallWP.all hh' (.inl Store.hit) ?_
  rw [show (done.map fun _ => true).all id = true by simp]
  repeat k_extra "m"
  have ga := (g1.trans g2).fresh (o := .list ((done.map fun _ => true).map V.bool)) ha
  have fa := Store.at_fresh (o := .list ((done.map fun _ => true).map V.bool)) ha (g2 _ _ f1)
  generalize Store.upd σ2 a _ = σ3 at ga fa ⊢
  refine TstO.cmp (EvO.call rfl ?_)
  repeat k_extra "m"
  refine ⟨_, rfl, by k_extra "mK", ?_⟩
  repeat k_extra "m"
  refine f_refused hK hS hlo ON OT OS FB (D := 80) (zs := hs.map encI) (by (first | lia | omega)) hh' (by (first | lia | omega)) a4 (by rw [List.map_map]; exact fa) (by simp; (first | lia | omega)) (fun z hz => ?_) (by rw [hK]; exact kindStranger _) rfl (.inr ⟨rfl, rfl, hs, rfl, ndp, hlen, hno, hnb⟩) rfl fun σ4 g4 => ?_
  · obtain ⟨q, hq, rfl⟩ := List.mem_map.mp hz
    exact ⟨rfl, (G q hq).grow ga⟩
  repeat k_extra "m"
  show ExsO C A' _ _ _ _ _ _
  refine ExsO.of ?_
  have g5 := ga.trans g4
  have f5 := g4 _ _ fa
  repeat k_extra "m"
  refine c_needh hK hS (by (first | lia | omega)) hh' (by (first | lia | omega)) (fun q hq => (G q hq).grow g5) ndp hlen hno (.inl f5) fun b σ5 g6 hb hb5 => ?_
  have g7 := g5.trans g6
  have f7 := g6 _ _ f5
  repeat k_extra "m"
  refine CmpWP.neSelf f7 (g7 _ _ hl) (fun y hy => ?_) (by (first | lia | omega)) ?_
  · obtain ⟨q, hq, rfl⟩ := List.mem_map.mp hy
    obtain ⟨j', hj', H', hx'⟩ := Ca.mem hq
    exact EqI.flat 3 _ (Hn.flat hx'.flat) (by (first | lia | omega))
  repeat k_extra "m"
  refine it g7 ?_
  repeat k_extra "m"
  refine c_hv hK (by (first | lia | omega)) hh' (by (first | lia | omega)) (hvq.grow g7) fun σ6 g8 => ?_
  repeat k_extra "m"
  have g9 := g7.trans g8
  refine ⟨_, _, ItV.list hh' (.inl (g9 _ _ hl)), fun L' => ?_⟩
  refine CmpL.inv (fun p : Hn × V => p.1.tv p.2) (fun ys out σ7 => ∃ done, done ++ ys = hs ∧ Grow σ6 σ7 ∧ out = (done.map (·.1.hd)).map hv) ?_ ?_ _ _ _ ⟨[], rfl, Grow.rfl', rfl⟩
  · rintro ⟨hn2, x2⟩ ys out σ7 ⟨done2, e7, g10, rfl⟩
    have hm2 : (hn2, x2) ∈ hs := by rw [← e7]; simp
    have hx2 : Holds C σ7 x2 (hn2.ds.map Deed.v) := ((G _ hm2).at_.grow g9).grow g10
    have hl2 : hn2.ds.length ≤ 30 := (G _ hm2).len
    have hlen2 := congrArg List.length e7
    have tv : ∀ {Q3 : V → Store → Prop} {X3 : XP}, Q3 (.tup (hn2.ds.map Deed.v)) σ7 → CallWP C A' (.type "tuple") [x2] σ7 Q3 X3 := by
      intro Q3 X3 hq
      rcases hx2 with ⟨l', rfl, z2⟩ | rfl
      · exact CallWP.tupOf (.inl z2) (by simp [sizeLine_eq]; (first | lia | omega)) hq
      · exact CallWP.tupOfTup hq
    simp only [Hn.tv]
    repeat k_extra "m"
    refine tv ?_
    repeat k_extra "m"
    exact ⟨by simp at hlen2; simp [sizeLine_eq]; (first | lia | omega), .inl ((g9.trans g10) _ _ hl), done2 ++ [(hn2, x2)], by simpa using e7, g10, by simp [hv, Hn.hd]⟩
  rintro out σ7 ⟨done2, e7, g10, rfl⟩
  rw [List.append_nil] at e7
  subst e7
  intro a2 ha2
  refine CmpWP.eqSelf (Store.at_fresh ha2 (g10 _ _ (g8 _ _ hb5))) Store.hit (fun y hy => ?_) (by (first | lia | omega)) ?_
  · rw [List.map_map] at hy
    obtain ⟨q, hq, rfl⟩ := List.mem_map.mp hy
    exact EqI.flat 3 _ (Hn.flat (flat_ds _)) (by (first | lia | omega))
  repeat k_extra "m"
  exact h _ ((g9.trans g10).fresh ha2)

theorem Cast4.names {c : Nat} {hs : List (Hn × V)} (Ca : Cast4 C σ c hs) : hs.map (·.1.name) = (List.range c).map (nameN c) := by
  refine List.ext_getElem (by simp [Ca.1]) fun i h1 h2 => ?_
  have hi : i < hs.length := by simpa using h1
  rw [List.getElem_map, List.getElem_map, List.getElem_range]
  exact (Ca.2 i hi).1.name
theorem names_nd {c : Nat} (hc : c ≤ 41) : ((List.range c).map (nameN c)).Nodup := by
  unfold List.Nodup
  rw [List.pairwise_map]
  refine List.nodup_range.imp_of_mem fun {a b} ha hb hne e => hne (nameN_inj ?_ ?_ e)
  · have := List.mem_range.mp ha; (first | lia | omega)
  · have := List.mem_range.mp hb; (first | lia | omega)
theorem ahead_z : aheadS.cps.toList = 122 :: aheadS.cps.toList.tail := by decide +kernel
theorem nobody_n : (Str.ofString "nobody").cps.toList.head? = some 110 := by decide +kernel
theorem nobody_ne {c k : Nat} (h : c * 7 % 11 ≠ 0) : nameN c k ≠ Str.ofString "nobody" := fun e => by
  have q := nameN_cut c k
  obtain ⟨m, em⟩ : ∃ m, c * 7 % 11 = m + 1 := ⟨c * 7 % 11 - 1, by (first | lia | omega)⟩
  rw [em, ahead_z, List.take_succ_cons, e] at q
  have := nobody_n
  rw [q] at this
  cases this
theorem names_nb {c : Nat} (h : c * 7 % 11 ≠ 0) : ((List.range c).map (nameN c)).contains (Str.ofString "nobody") = false := by
  rw [List.contains_eq_mem, decide_eq_false_iff_not]
  intro z
  obtain ⟨k, _, e⟩ := List.mem_map.mp z
  exact nobody_ne h e
theorem due4_end {wr p : Nat} {st : Bool} (hw : wr = 1 ∨ wr = 2) : ∀ (r : List (Hn × V)) (k : Nat), k ≤ p → p < k + r.length → due4 wr p st k r = Str.ofString "handler" ∨ due4 wr p st k r = Str.ofString "twice"
  | [], k, h1, h2 => by simp at h2; (first | lia | omega)
  | q :: r, k, h1, h2 => by
    rw [due4_cons]
    by_cases c1 : k = 40 ∨ (wr = 1 ∧ k = p) ∨ (30 < q.1.ds.length ∧ ¬ (0 < wr ∧ k = p))
    · rw [if_pos c1]; exact .inl rfl
    rw [if_neg c1]
    by_cases c2 : wr = 2 ∧ k = p
    · rw [if_pos c2]; exact .inr rfl
    rw [if_neg c2]
    exact due4_end hw r (k + 1) (by (first | lia | omega)) (by simp at h2; (first | lia | omega))
theorem vrd_le : ∀ (zs : List Itm) (i : Nat) (seen : List Str), vrd i seen zs = 0 ∨ vrd i seen zs = 1 ∨ vrd i seen zs = 2
  | [], _, _ => .inl rfl
  | (v, none) :: r, _, _ => .inr (.inl rfl)
  | (v, some p) :: r, i, seen => by
    rw [vrd_some]
    by_cases c1 : 40 ≤ i
    · rw [if_pos c1]; exact .inr (.inl rfl)
    rw [if_neg c1]
    by_cases c2 : seen.contains p.1.name = true
    · rw [if_pos c2]; exact .inr (.inr rfl)
    rw [if_neg c2]
    exact vrd_le r _ _
theorem vrd0 : ∀ (zs : List Itm) (i : Nat) (seen : List Str), vrd i seen zs = 0 → (∀ z ∈ zs, z.2 ≠ none) ∧ (i ≤ 40 → i + zs.length ≤ 40)
  | [], _, _, _ => ⟨(fun _ z => by cases z), fun z => z⟩
  | (v, none) :: r, _, _, h => by cases h
  | (v, some p) :: r, i, seen, h => by
    rw [vrd_some] at h
    by_cases c1 : 40 ≤ i
    · rw [if_pos c1] at h; cases h
    rw [if_neg c1] at h
    by_cases c2 : seen.contains p.1.name = true
    · rw [if_pos c2] at h; cases h
    rw [if_neg c2] at h
    obtain ⟨a, b⟩ := vrd0 r _ _ h
    refine ⟨fun z hz => ?_, fun _ => by have := b (by (first | lia | omega)); simp; (first | lia | omega)⟩
    rcases List.mem_cons.mp hz with rfl | hz
    · exact fun q => by cases q
    · exact a z hz
theorem itm_val {wr p : Nat} {bad : V} {tw : Hn × V} {k : Nat} {q : Hn × V} (h : ¬ ((wr = 1 ∨ wr = 2) ∧ k = p)) : (itm wr p bad tw k q).1 = q.1.tv q.2 := by
  unfold itm
  rw [if_neg (by (first | lia | omega)), if_neg (by (first | lia | omega))]
  by_cases c : 30 < q.1.ds.length
  · rw [if_pos c]
  · rw [if_neg c]; rfl
theorem itms_past {wr p : Nat} {bad : V} {tw : Hn × V} : ∀ (r : List (Hn × V)) (k : Nat), ((wr = 1 ∨ wr = 2) → p < k) → (itms wr p bad tw k r).map (·.1) = r.map fun q => q.1.tv q.2
  | [], _, _ => rfl
  | q :: r, k, h => by
    rw [itms, List.map_cons, List.map_cons, itm_val (by (first | lia | omega)), itms_past r (k + 1) (by (first | lia | omega))]
theorem itms_at {wr p : Nat} {bad nv : V} {tw : Hn × V} (h1 : wr = 1 → nv = bad) (h2 : wr = 2 → nv = tw.1.tv tw.2) (hw : wr = 1 ∨ wr = 2) : ∀ (r : List (Hn × V)) (k : Nat), k ≤ p → (itms wr p bad tw k r).map (·.1) = (r.map fun q => q.1.tv q.2).set (p - k) nv
  | [], _, _ => rfl
  | q :: r, k, h => by
    rw [itms, List.map_cons, List.map_cons]
    by_cases e : k = p
    · rw [itms_past r (k + 1) (by (first | lia | omega)), show p - k = 0 by (first | lia | omega), List.set_cons_zero]
      congr 1
      unfold itm
      rcases hw with w | w
      · rw [if_pos ⟨w, e⟩, h1 w]
      · rw [if_neg (by (first | lia | omega)), if_pos ⟨w, e⟩, h2 w]; rfl
    · rw [itm_val (by (first | lia | omega)), itms_at h1 h2 hw r (k + 1) (by (first | lia | omega)), show p - k = (p - (k + 1)) + 1 by (first | lia | omega), List.set_cons_succ]
theorem itms_len {wr p : Nat} {bad : V} {tw : Hn × V} : ∀ (r : List (Hn × V)) (k : Nat), (itms wr p bad tw k r).length = r.length
  | [], _ => rfl
  | q :: r, k => by rw [itms, List.length_cons, List.length_cons, itms_len r]
theorem itms_all {P : Itm → Prop} {wr p : Nat} {bad : V} {tw : Hn × V} (hb : wr = 1 → P (bad, none)) (ht : wr = 2 → P (encI tw)) : ∀ (r : List (Hn × V)) (k : Nat), (∀ q ∈ r, (30 < q.1.ds.length → P (q.1.tv q.2, none)) ∧ (¬ 30 < q.1.ds.length → P (encI q))) → ∀ z ∈ itms wr p bad tw k r, P z
  | [], _, _, _, hz => by cases hz
  | q :: r, k, h, z, hz => by
    rw [itms] at hz
    rcases List.mem_cons.mp hz with rfl | hz
    · unfold itm
      by_cases c1 : wr = 1 ∧ k = p
      · rw [if_pos c1]; exact hb c1.1
      rw [if_neg c1]
      by_cases c2 : wr = 2 ∧ k = p
      · rw [if_pos c2]; exact ht c2.1
      rw [if_neg c2]
      by_cases c3 : 30 < q.1.ds.length
      · rw [if_pos c3]; exact (h q (.head _)).1 c3
      · rw [if_neg c3]; exact (h q (.head _)).2 c3
    · exact itms_all hb ht r (k + 1) (fun q hq => h q (.tail _ hq)) z hz
/-- all stand: they are the handlers as they were drawn -/
theorem itms_enc {wr p : Nat} {bad : V} {tw : Hn × V} (hw : wr = 0) : ∀ (r : List (Hn × V)) (k : Nat), (∀ z ∈ itms wr p bad tw k r, z.2 ≠ none) → itms wr p bad tw k r = r.map encI ∧ ∀ q ∈ r, q.1.ds.length ≤ 30
  | [], _, _ => ⟨rfl, fun _ z => by cases z⟩
  | q :: r, k, h => by
    rw [itms] at h ⊢
    obtain ⟨a, b⟩ := itms_enc hw r (k + 1) fun z hz => h z (.tail _ hz)
    have h0 := h _ (.head _)
    unfold itm at h0 ⊢
    rw [if_neg (by (first | lia | omega)), if_neg (by (first | lia | omega))] at h0 ⊢
    by_cases c3 : 30 < q.1.ds.length
    · rw [if_pos c3] at h0; exact absurd rfl h0
    rw [if_neg c3, a]
    refine ⟨rfl, fun z hz => ?_⟩
    rcases List.mem_cons.mp hz with rfl | hz
    · (first | lia | omega)
    · exact b z hz

theorem Cast4.set {c j : Nat} {hs : List (Hn × V)} {hn : Hn} {x : V} (h : Cast4 C σ c hs) (H : HBy c j hn) (hx : Holds C σ x (hn.ds.map Deed.v)) : Cast4 C σ c (hs.set j (hn, x)) := by
  refine ⟨by rw [List.length_set]; exact h.1, fun i hi => ?_⟩
  rw [List.length_set] at hi
  by_cases e : j = i
  · subst e
    rw [List.getElem_set_self]
    exact ⟨H, hx⟩
  · rw [List.getElem_set_ne e]
    exact h.2 i hi
/-- whose deeds name strangers -/
def Dd4 (c far : Nat) (st : Bool) (hs : List (Hn × V)) : Prop := (∀ q ∈ hs, (∀ d ∈ q.1.ds, DeedBy c d) ∨ (st = true ∧ Far q.1)) ∧ (st = true → ∃ q ∈ hs, Far q.1)
theorem Store.toDel {l : Addr} {o : O} (h : σ l = none) : Grow σ ((σ.upd l o).del l) := by
  intro a o' e
  have : a ≠ l := fun q => by subst q; rw [h] at e; cases e
  exact del_ne this (Store.miss this e)
theorem counts9 : ∀ y ∈ ([1, 2, 3, 4, 5, 6, 39, 40, 41] : List Int), 1 ≤ y ∧ y ≤ 41 ∧ y * 7 % 11 ≠ 0 := by decide
theorem eq_itms {wr p : Nat} {bad : V} {tw : Hn × V} {c : Nat} {hs : List (Hn × V)} (Ca : Cast4 C σ c hs) (hb : wr = 1 → V.flat 3 bad) (ht : wr = 2 → V.flat 2 tw.2) : ∀ y ∈ (itms wr p bad tw 0 hs).map (·.1), V.flat 3 y := by
  intro y hy
  obtain ⟨z, hz, rfl⟩ := List.mem_map.mp hy
  refine itms_all (P := fun z => V.flat 3 z.1) hb (fun w => Hn.flat (ht w)) hs 0 (fun q hq => ?_) z hz
  obtain ⟨j, hj, H, hx⟩ := Ca.mem hq
  exact ⟨fun _ => Hn.flat hx.flat, fun _ => Hn.flat hx.flat⟩
theorem ok_itms {wr p : Nat} {bad : V} {tw : Hn × V} {c : Nat} {hs : List (Hn × V)} (hc : c ≤ 41) (Ca : Cast4 C σ c hs) (hb : wr = 1 → HV C σ bad false) (ht : wr = 2 → GoodH C σ tw) : ∀ z ∈ itms wr p bad tw 0 hs, ItmOk C σ z := by
  refine itms_all hb (fun w => ⟨rfl, ht w⟩) hs 0 fun q hq => ?_
  obtain ⟨j, hj, H, hx⟩ := Ca.mem hq
  have hv := H.hv (by (first | lia | omega)) hx
  refine ⟨fun c => ?_, fun c => ⟨rfl, ?_⟩⟩
  · rw [decide_eq_false (by (first | lia | omega))] at hv; exact hv
  · rw [decide_eq_true (by (first | lia | omega))] at hv
    exact ⟨hv, hx, by (first | lia | omega), by rw [H.name]; exact nameN_ok _ j (by (first | lia | omega))⟩
/-- what the handlers' list holds is refused as is due, or all stands -/
theorem f_ref4 (hK : C.K = KL C.w.params) (hS : SysOk C) (hlo : C.loose) {ll : List Env} {bm : List Value} {newId B initId : String} (ON : OwnCls (Str.ofString "NoHandler") 56 bm newId C.mg C.h₀) (OT : OwnCls (Str.ofString "Twice") 68 bm newId C.mg C.h₀) (OS : OwnCls (Str.ofString "Stranger") 80 bm newId C.mg C.h₀) (FB : ExcBaseFacts B newId initId bm)
    {l : Addr} {way : Int} {wr p c far : Nat} {st sd : Bool} {bad : V} {tw : Hn × V} {hs : List (Hn × V)} {Q : V → Store → Prop} (hr : A.depth + 8 < recursionLimit) (hh : A.handled = none) (hu : A.units < 5800) (hfr : A.frames = some ll) (hl : σ l = some (.list ((itms wr p bad tw 0 hs).map (·.1)))) (hw : wr ≤ 2) (hp : p < c) (hc : c ≤ 41) (h7 : c * 7 % 11 ≠ 0) (Ca : Cast4 C σ c hs) (Dd : Dd4 c far st hs) (hb : wr = 1 → HV C σ bad false) (ht : wr = 2 → GoodH C σ tw ∧ 0 < p ∧ tw.1.name = nameN c (p - 1)) (hst : wr = 0 → sd = st)
    (hne : due4 wr p sd 0 hs ≠ Str.ofString "none") (h : ∀ σ', Grow σ σ' → Q (.str (due4 wr p sd 0 hs)) σ') : CallF C A ll (.ref 374) [.ref l, .int way] σ Q X := by
  have hlen := Ca.1
  have nd : ((hs.map (·.1.name))).Nodup := by rw [Ca.names]; exact names_nd hc
  have key : due4 wr p sd 0 hs = vS sd (vrd 0 [] (itms wr p bad tw 0 hs)) := by
    refine due_vrd hw hs 0 [] (by (first | lia | omega)) (by simpa using nd) (fun w => ⟨by (first | lia | omega), (ht w).2.1, fun q hq => ?_⟩) rfl
    rw [List.nil_append, Ca.names, List.getElem?_map, List.getElem?_range (by (first | lia | omega))] at hq
    rw [(ht w).2.2]; exact (Option.some.inj hq).symm
  have hz : (itms wr p bad tw 0 hs).length ≤ 41 := by rw [itms_len]; (first | lia | omega)
  have ok := ok_itms hc Ca (p := p) hb fun w => (ht w).1
  rcases vrd_le (itms wr p bad tw 0 hs) 0 [] with e | e | e
  · have sd1 : sd = true := by
      cases q : sd
      · rw [key, e, q] at hne; exact absurd rfl hne
      · rfl
    have w0 : wr = 0 := by
      rcases (by (first | lia | omega) : wr = 0 ∨ wr = 1 ∨ wr = 2) with w | w
      · exact w
      · rcases due4_end (st := sd) w hs 0 (Nat.zero_le p) (by (first | lia | omega)) with z | z
        · rw [key, e, sd1] at z; exact absurd z (by decide +kernel)
        · rw [key, e, sd1] at z; exact absurd z (by decide +kernel)
    have st1 : st = true := by rw [← hst w0]; exact sd1
    obtain ⟨ee, e30⟩ := itms_enc (p := p) (bad := bad) (tw := tw) w0 hs 0 (vrd0 _ _ _ e).1
    rw [key, e, sd1] at h
    refine f_refused hK hS hlo ON OT OS FB (D := 80) hr hh hu hfr hl hz ok (by rw [hK]; exact kindStranger _) rfl (.inl ⟨fun z => ?_, fun z => ?_, fun _ => ⟨rfl, ?_⟩⟩) rfl h
    · rw [e] at z; cases z
    · rw [e] at z; cases z
    · rw [ee, told_enc, List.any_eq_true]
      obtain ⟨q, hq, f1, d, hd, f2⟩ := Dd.2 st1
      refine ⟨q, hq, ?_⟩
      rw [List.any_eq_true]
      exact ⟨d, hd, f2 _ (by rw [Ca.names]; exact names_nb h7)⟩
  · rw [key, e] at h
    refine f_refused hK hS hlo ON OT OS FB (D := 56) hr hh hu hfr hl hz ok (by rw [hK]; exact kindNoHandler _) rfl (.inl ⟨fun z => rfl, fun z => ?_, fun z => ?_⟩) rfl h
    · rw [e] at z; cases z
    · rw [e] at z; cases z
  · rw [key, e] at h
    refine f_refused hK hS hlo ON OT OS FB (D := 68) hr hh hu hfr hl hz ok (by rw [hK]; exact kindTwice _) rfl (.inl ⟨fun z => ?_, fun z => rfl, fun z => ?_⟩) rfl h
    · rw [e] at z; cases z
    · rw [e] at z; cases z
/-- nothing is due: all stand -/
theorem none4 {wr p c far : Nat} {st sd : Bool} {hs : List (Hn × V)} (hw : wr ≤ 2) (hp : p < c) (hc : c ≤ 41) (Ca : Cast4 C σ c hs) (Dd : Dd4 c far st hs) (hst : wr = 0 → sd = st) (hno : due4 wr p sd 0 hs = Str.ofString "none") : wr = 0 ∧ c ≤ 40 ∧ (∀ q ∈ hs, q.1.ds.length ≤ 30) ∧ (hs.map (·.1.name)).Nodup ∧ ∀ q ∈ hs, ∀ d ∈ q.1.ds, odd (hs.map (·.1.name)) d = false := by
  have hlen := Ca.1
  have w0 : wr = 0 := by
    rcases (by (first | lia | omega) : wr = 0 ∨ wr = 1 ∨ wr = 2) with w | w
    · exact w
    · rcases due4_end (st := sd) w hs 0 (Nat.zero_le p) (by (first | lia | omega)) with z | z
      · rw [hno] at z; exact absurd z (by decide +kernel)
      · rw [hno] at z; exact absurd z (by decide +kernel)
  have nd : ((hs.map (·.1.name))).Nodup := by rw [Ca.names]; exact names_nd hc
  have key : due4 wr p sd 0 hs = vS sd (vrd 0 [] (itms wr p .none (⟨default, 0, default, false, []⟩, .none) 0 hs)) := due_vrd hw hs 0 [] (by (first | lia | omega)) (by simpa using nd) (fun w => by (first | lia | omega)) rfl
  rcases vrd_le (itms wr p .none (⟨default, 0, default, false, []⟩, .none) 0 hs) 0 [] with e | e | e
  · rw [key, e] at hno
    have sd0 : sd = false := by
      cases q : sd
      · rfl
      · rw [q] at hno; exact absurd hno (by decide +kernel)
    obtain ⟨ea, eb⟩ := vrd0 _ _ _ e
    rw [itms_len] at eb
    obtain ⟨ee, e30⟩ := itms_enc w0 hs 0 ea
    refine ⟨w0, by (first | lia | omega), e30, nd, fun q hq d hd => ?_⟩
    rcases Dd.1 q hq with z | ⟨z, _⟩
    · exact (z d hd).2 _ fun j hj => by rw [Ca.names]; exact List.mem_map_of_mem (List.mem_range.mpr hj)
    · rw [← hst w0, sd0] at z; cases z
  · rw [key, e] at hno; exact absurd (show Str.ofString "handler" = _ from hno) (by decide +kernel)
  · rw [key, e] at hno; exact absurd (show Str.ofString "twice" = _ from hno) (by decide +kernel)

theorem c_law (hK : C.K = KL C.w.params) (hS : SysOk C) (hlo : C.loose) {bm : List Value} {newId B initId : String} (ON : OwnCls (Str.ofString "NoHandler") 56 bm newId C.mg C.h₀) (OT : OwnCls (Str.ofString "Twice") 68 bm newId C.mg C.h₀) (OS : OwnCls (Str.ofString "Stranger") 80 bm newId C.mg C.h₀) (FB : ExcBaseFacts B newId initId bm) {l0 : Addr} {cs : List Int} (hl0 : BaseL C l0 (cs.map V.int)) (hn : cs.length ≤ 63) :
    CallWP C callerA (.ref 405) [.ref l0] (fun _ => none) (fun v _ => v = .bool true) (fun _ _ => False) := by
  have hr0 : callerA.depth < recursionLimit := by decide
  generalize (fun _ => none : Store) = σ
  refine' CallWP.def1O _ (by k_extra "mK") (by k_extra "mK") (by assumption) (by intro _; with_unfolding_all rfl) (by decide +kernel) (by kernel_rfl!) (by kernel_rfl!) (by rfl) (by rfl) (by rfl) (by rfl) ?_
  intro fL A' a1 a2 a3 a4
  have hh' : A'.handled = none := a1
  have hr' : A'.depth + 20 < recursionLimit := by rw [a2]; decide
  have hr1 : A'.depth < recursionLimit := by (first | lia | omega)
  have hu : A'.units < 5000 := by rw [a3]; decide
  have hcs : cs.length ≤ 1000 := by (first | lia | omega)
  have tl : ∀ (i : Nat) {σ1 : Store} {Q1 : V → Store → Prop} {X1 : XP}, i ≤ 1000 → Q1 (.int (cs.getD i 0)) σ1 → CallWP C A' (.ref 313) [.ref l0, .int (i : Int)] σ1 Q1 X1 := fun i {_ _ _} hi hq => c_told hK hr1 hh' (.inr hl0) hcs hi hq
  with_reducible refine Exs.cut (fun ρ' σ' => ∃ b : Int, ρ'.get "_law_script" = some (.ref l0) ∧ ρ'.get "_law_base" = some (.int b)) ?_ ?_
  · repeat k_extra "m"
    refine tl 0 (by (first | lia | omega)) ?_
    repeat k_extra "m"
    exact ⟨rfl, _, by k_extra "mget", by k_extra "mget"⟩
  rintro ρ1 σ1 ⟨b, r1, r2⟩
  with_reducible refine Exs.cut (fun ρ' σ' => ∃ c : Nat, (1 ≤ c ∧ c ≤ 41 ∧ c * 7 % 11 ≠ 0) ∧ ρ'.get "_law_script" = some (.ref l0) ∧ ρ'.get "_law_base" = some (.int b) ∧ ρ'.get "_law_count" = some (.int (c : Int))) ?_ ?_
  · have m0 : 0 ≤ b.fmod 9 := Int.fmod_nonneg_of_pos _ (by (first | lia | omega))
    have m1 : b.fmod 9 < 9 := Int.fmod_lt_of_pos _ (by (first | lia | omega))
    repeat k_extra "m"
    intro a ha
    have f1 : (σ1.upd a (.list (([1, 2, 3, 4, 5, 6, 39, 40, 41] : List Int).map V.int))) a = some (.list (([1, 2, 3, 4, 5, 6, 39, 40, 41] : List Int).map V.int)) := Store.hit
    have l9 : ([1, 2, 3, 4, 5, 6, 39, 40, 41] : List Int).length = 9 := rfl
    have h9 := counts9
    show Ev C A' _ _ _ (σ1.upd a (.list (([1, 2, 3, 4, 5, 6, 39, 40, 41] : List Int).map V.int))) _ _
    generalize ([1, 2, 3, 4, 5, 6, 39, 40, 41] : List Int) = ws at f1 l9 h9 ⊢
    generalize Store.upd σ1 a _ = σ2 at f1 ⊢
    repeat k_extra "m"
    have hx : (b.fmod 9).toNat < ws.length := by (first | lia | omega)
    refine ItemWP.list (y := .int ws[(b.fmod 9).toNat]) (.inl f1) m0 (by (first | lia | omega)) (by rw [List.getElem?_map, List.getElem?_eq_getElem hx]; rfl) ?_
    obtain ⟨q1, q2, q3⟩ := h9 _ (List.getElem_mem hx)
    generalize ws[(b.fmod 9).toNat] = y at q1 q2 q3 ⊢
    repeat k_extra "m"
    refine ⟨rfl, y.toNat, ⟨by (first | lia | omega), by (first | lia | omega), by (first | lia | omega)⟩, by k_extra "mget", by k_extra "mget", ?_⟩
    rw [Int.toNat_of_nonneg (by (first | lia | omega))]; k_extra "mget"
  clear r1 r2 σ1
  rintro ρ2 σ2 ⟨c, ⟨c1, c41, c7⟩, r1, r2, r3⟩
  have er : irange 0 (c : Int) = (List.range' 0 c).map fun (i : Nat) => V.int (i : Int) := by
    unfold irange
    rw [List.range_eq_range']
    simp
  with_reducible refine Exs.cut (fun ρ' σ' => ∃ (l : Addr) (hs : List (Hn × V)), σ' l = some (.list (hs.map fun p => p.1.tv p.2)) ∧ Cast4 C (σ'.del l) c hs ∧ (∀ q ∈ hs, ∀ d ∈ q.1.ds, DeedBy c d) ∧ ρ'.get "_law_script" = some (.ref l0) ∧ ρ'.get "_law_base" = some (.int b) ∧ ρ'.get "_law_count" = some (.int (c : Int)) ∧ ρ'.get "_law_handlers" = some (.ref l)) ?_ ?_
  · repeat k_extra "m"
    refine ⟨_, _, ItV.rng hh' (by (first | lia | omega)) (by (first | lia | omega)) (by (first | lia | omega)) (by (first | lia | omega)), fun L' => ?_⟩
    rw [er]
    refine CmpL.inv (fun (i : Nat) => V.int (i : Int)) (fun ys out σ3 => ∃ hs : List (Hn × V), ys = List.range' hs.length (c - hs.length) ∧ hs.length ≤ c ∧ (∀ (i : Nat) (h : i < hs.length), HBy c i hs[i].1 ∧ Holds C σ3 hs[i].2 (hs[i].1.ds.map Deed.v)) ∧ (∀ q ∈ hs, ∀ d ∈ q.1.ds, DeedBy c d) ∧ out = hs.map fun p => p.1.tv p.2) ?_ ?_ _ _ _ ⟨[], by simp, by simp, (fun i h => absurd h (Nat.not_lt_zero i)), (fun _ z => by cases z), rfl⟩
    · rintro i ys out σ3 ⟨hs, e, hlen, Ca, Dd, rfl⟩
      have hlt : hs.length < c := by
        cases z : c - hs.length with
        | zero => rw [z] at e; cases e
        | succ m => (first | lia | omega)
      rw [show c - hs.length = (c - (hs.length + 1)) + 1 by (first | lia | omega), List.range'_succ] at e
      obtain ⟨rfl, rfl⟩ := List.cons.inj e
      repeat k_extra "m"
      have e3 : (3 : Int) + (hs.length : Int) = ((3 + hs.length : Nat) : Int) := by (first | lia | omega)
      rw [e3]
      refine tl _ (by (first | lia | omega)) ?_
      generalize cs.getD (3 + hs.length) 0 = cell
      repeat k_extra "m"
      refine c_handler_by hK (by (first | lia | omega)) hh' c1 c41 hlt fun hn x σ4 g4 H D hx => ?_
      refine ⟨by rw [List.length_map, sizeLine_eq]; (first | lia | omega), trivial, hs ++ [(hn, x)], by simp, by simp; (first | lia | omega), fun i hi => ?_, fun q hq => ?_, by simp⟩
      · by_cases q : i < hs.length
        · rw [List.getElem_append_left q]
          exact ⟨(Ca i q).1, (Ca i q).2.grow g4⟩
        · have e4 : i = hs.length := by simp at hi; (first | lia | omega)
          subst e4
          rw [List.getElem_append_right (Nat.le_refl _)]
          simp only [Nat.sub_self, List.getElem_cons_zero]
          exact ⟨H, hx⟩
      · rcases List.mem_append.mp hq with z | z
        · exact Dd q z
        · rw [List.mem_singleton.mp z]; exact D
    · rintro out σ3 ⟨hs, e, hlen, Ca, Dd, rfl⟩
      have hl : hs.length = c := by
        have := congrArg List.length e
        simp at this; (first | lia | omega)
      intro l hl'
      repeat k_extra "m"
      exact ⟨rfl, l, hs, Store.hit, Cast4.grow ⟨hl, Ca⟩ (Store.toDel hl'), Dd, by k_extra "mget", by k_extra "mget", by k_extra "mget", by k_extra "mget"⟩
  clear r1 r2 r3 er σ2
  rintro ρ3 σ3 ⟨l, hs, hl, Ca, Dd, r1, r2, r3, r4⟩
  with_reducible refine Exs.cut (fun ρ' σ' => σ' = σ3 ∧ ∃ p : Nat, p < c ∧ ρ'.get "_law_script" = some (.ref l0) ∧ ρ'.get "_law_base" = some (.int b) ∧ ρ'.get "_law_count" = some (.int (c : Int)) ∧ ρ'.get "_law_handlers" = some (.ref l) ∧ ρ'.get "_law_place" = some (.int (p : Int))) ?_ ?_
  · repeat k_extra "m"
    refine tl 1 (by (first | lia | omega)) ?_
    repeat k_extra "m"
    refine BinWP.fmod_int (by (first | lia | omega)) ?_
    have b0 : 0 ≤ ((cs.getD 1 0).fdiv 12).fmod (c : Int) := Int.fmod_nonneg_of_pos _ (by (first | lia | omega))
    have b1 : ((cs.getD 1 0).fdiv 12).fmod (c : Int) < (c : Int) := Int.fmod_lt_of_pos _ (by (first | lia | omega))
    generalize ((cs.getD 1 0).fdiv 12).fmod (c : Int) = p at b0 b1 ⊢
    repeat k_extra "m"
    refine ⟨rfl, rfl, p.toNat, by (first | lia | omega), by k_extra "mget", by k_extra "mget", by k_extra "mget", by k_extra "mget", ?_⟩
    rw [Int.toNat_of_nonneg b0]; k_extra "mget"
  clear r1 r2 r3 r4
  rintro ρ4 σ4 ⟨rfl, p, hp, r1, r2, r3, r4, r5⟩
  with_reducible refine Exs.cut (fun ρ' σ' => σ' = σ4 ∧ ∃ far : Nat, far < c ∧ ρ'.get "_law_script" = some (.ref l0) ∧ ρ'.get "_law_base" = some (.int b) ∧ ρ'.get "_law_count" = some (.int (c : Int)) ∧ ρ'.get "_law_handlers" = some (.ref l) ∧ ρ'.get "_law_place" = some (.int (p : Int)) ∧ ρ'.get "_law_far" = some (.int (far : Int))) ?_ ?_
  · repeat k_extra "m"
    refine tl 2 (by (first | lia | omega)) ?_
    repeat k_extra "m"
    refine BinWP.fmod_int (by (first | lia | omega)) ?_
    have b0 : 0 ≤ ((cs.getD 2 0).fdiv 3).fmod (c : Int) := Int.fmod_nonneg_of_pos _ (by (first | lia | omega))
    have b1 : ((cs.getD 2 0).fdiv 3).fmod (c : Int) < (c : Int) := Int.fmod_lt_of_pos _ (by (first | lia | omega))
    generalize ((cs.getD 2 0).fdiv 3).fmod (c : Int) = p at b0 b1 ⊢
    repeat k_extra "m"
    refine ⟨rfl, rfl, p.toNat, by (first | lia | omega), by k_extra "mget", by k_extra "mget", by k_extra "mget", by k_extra "mget", by k_extra "mget", ?_⟩
    rw [Int.toNat_of_nonneg b0]; k_extra "mget"
  clear r1 r2 r3 r4 r5
  rintro ρ5 σ5 ⟨rfl, far, hfar, r1, r2, r3, r4, r5, r6⟩
  with_reducible refine Exs.cut (fun ρ' σ' => σ' = σ5 ∧ ∃ st : Bool, ρ'.get "_law_script" = some (.ref l0) ∧ ρ'.get "_law_base" = some (.int b) ∧ ρ'.get "_law_count" = some (.int (c : Int)) ∧ ρ'.get "_law_handlers" = some (.ref l) ∧ ρ'.get "_law_place" = some (.int (p : Int)) ∧ ρ'.get "_law_far" = some (.int (far : Int)) ∧ ρ'.get "_law_strange" = some (.bool st)) ?_ ?_
  · repeat k_extra "m"
    refine tl 2 (by (first | lia | omega)) ?_
    repeat k_extra "m"
    exact ⟨rfl, rfl, _, by k_extra "mget", by k_extra "mget", by k_extra "mget", by k_extra "mget", by k_extra "mget", by k_extra "mget", by k_extra "mget"⟩
  clear r1 r2 r3 r4 r5 r6
  rintro ρ6 σ6 ⟨rfl, st, r1, r2, r3, r4, r5, r6, r7⟩
  with_reducible refine Exs.cut (fun ρ' σ' => ∃ hs : List (Hn × V), σ' l = some (.list (hs.map fun p => p.1.tv p.2)) ∧ Cast4 C (σ'.del l) c hs ∧ Dd4 c far st hs ∧ ρ'.get "_law_script" = some (.ref l0) ∧ ρ'.get "_law_base" = some (.int b) ∧ ρ'.get "_law_count" = some (.int (c : Int)) ∧ ρ'.get "_law_handlers" = some (.ref l) ∧ ρ'.get "_law_place" = some (.int (p : Int)) ∧ ρ'.get "_law_far" = some (.int (far : Int)) ∧ ρ'.get "_law_strange" = some (.bool st)) ?_ ?_
  · cases st with
    | false =>
      repeat k_extra "m"
      exact ⟨rfl, hs, hl, Ca, ⟨fun q hq => .inl (Dd q hq), fun z => by cases z⟩, by k_extra "mget", by k_extra "mget", by k_extra "mget", by k_extra "mget", by k_extra "mget", by k_extra "mget", by k_extra "mget"⟩
    | true =>
      have hlen := Ca.1
      have hf : far < hs.length := by (first | lia | omega)
      repeat k_extra "m"
      refine ItemWP.list (y := hs[far].1.tv hs[far].2) (.inl hl) (by (first | lia | omega)) (by (first | lia | omega)) (by simp [hf]) ?_
      repeat k_extra "m"
      refine tl 2 (by (first | lia | omega)) ?_
      repeat k_extra "m"
      refine c_estranged hK hr1 hh' (Ca.2 far hf).1 hl (Ca.2 far hf).2 fun hn' x' σ7 g7 H' F' hx' => ?_
      repeat k_extra "m"
      refine SetWP.list (g7 _ _ hl) (by (first | lia | omega)) (by rw [List.length_map]; (first | lia | omega)) (by rw [List.length_map]; (first | lia | omega)) ?_
      repeat k_extra "m"
      refine ⟨rfl, hs.set far (hn', x'), ?_, ?_, ⟨fun q hq => ?_, fun _ => ⟨(hn', x'), List.mem_set hf _, F'⟩⟩, by k_extra "mget", by k_extra "mget", by k_extra "mget", by k_extra "mget", by k_extra "mget", by k_extra "mget", by k_extra "mget"⟩
      · rw [Store.hit, List.map_set]; rfl
      · rw [del_upd]
        exact (Ca.grow g7.del).set H' hx'
      · rcases List.mem_or_eq_of_mem_set hq with z | rfl
        · exact .inl (Dd q z)
        · exact .inr ⟨rfl, F'⟩
  clear r1 r2 r3 r4 r5 r6 r7 hl Ca Dd hs σ6
  rintro ρ7 σ7 ⟨hs, hl, Ca, Dd, r1, r2, r3, r4, r5, r6, r7⟩
  have hlen := Ca.1
  with_reducible refine Exs.cut (fun ρ' σ' => ∃ g : Addr, g ≠ l ∧ σ' g = some (.list (hs.map fun p => p.1.tv p.2)) ∧ σ' l = some (.list (hs.map fun p => p.1.tv p.2)) ∧ Cast4 C (σ'.del l) c hs ∧ ρ'.get "_law_script" = some (.ref l0) ∧ ρ'.get "_law_base" = some (.int b) ∧ ρ'.get "_law_count" = some (.int (c : Int)) ∧ ρ'.get "_law_handlers" = some (.ref l) ∧ ρ'.get "_law_place" = some (.int (p : Int)) ∧ ρ'.get "_law_far" = some (.int (far : Int)) ∧ ρ'.get "_law_strange" = some (.bool st) ∧ ρ'.get "_law_good" = some (.ref g)) ?_ ?_
  · repeat k_extra "m"
    intro g hg
    have gg : Grow σ7 (σ7.upd g (.list (hs.map fun p => p.1.tv p.2))) := Grow.rfl'.fresh hg
    repeat k_extra "m"
    exact ⟨rfl, g, ne_l hl Grow.rfl' hg, Store.hit, gg _ _ hl, Ca.grow gg.del, by k_extra "mget", by k_extra "mget", by k_extra "mget", by k_extra "mget", by k_extra "mget", by k_extra "mget", by k_extra "mget", by k_extra "mget"⟩
  clear r1 r2 r3 r4 r5 r6 r7 hl Ca
  rintro ρ8 σ8 ⟨g, hgl, hg, hl, Ca, r1, r2, r3, r4, r5, r6, r7, r8⟩
  with_reducible refine Exs.cut (fun ρ' σ' => σ' = σ8 ∧ ∃ way : Int, (0 ≤ way ∧ way < 12) ∧ ρ'.get "_law_script" = some (.ref l0) ∧ ρ'.get "_law_base" = some (.int b) ∧ ρ'.get "_law_count" = some (.int (c : Int)) ∧ ρ'.get "_law_handlers" = some (.ref l) ∧ ρ'.get "_law_place" = some (.int (p : Int)) ∧ ρ'.get "_law_far" = some (.int (far : Int)) ∧ ρ'.get "_law_strange" = some (.bool st) ∧ ρ'.get "_law_good" = some (.ref g) ∧ ρ'.get "_law_way" = some (.int way)) ?_ ?_
  · repeat k_extra "m"
    refine tl 1 (by (first | lia | omega)) ?_
    repeat k_extra "m"
    exact ⟨rfl, rfl, _, ⟨Int.fmod_nonneg_of_pos _ (by (first | lia | omega)), Int.fmod_lt_of_pos _ (by (first | lia | omega))⟩, by k_extra "mget", by k_extra "mget", by k_extra "mget", by k_extra "mget", by k_extra "mget", by k_extra "mget", by k_extra "mget", by k_extra "mget", by k_extra "mget"⟩
  clear r1 r2 r3 r4 r5 r6 r7 r8
  rintro ρ9 σ9 ⟨rfl, w0, hw0, r1, r2, r3, r4, r5, r6, r7, r8, r9⟩
  with_reducible refine Exs.cut (fun ρ' σ' => σ' = σ9 ∧ ∃ way : Int, (0 ≤ way ∧ way < 12) ∧ ρ'.get "_law_script" = some (.ref l0) ∧ ρ'.get "_law_base" = some (.int b) ∧ ρ'.get "_law_count" = some (.int (c : Int)) ∧ ρ'.get "_law_handlers" = some (.ref l) ∧ ρ'.get "_law_place" = some (.int (p : Int)) ∧ ρ'.get "_law_far" = some (.int (far : Int)) ∧ ρ'.get "_law_strange" = some (.bool st) ∧ ρ'.get "_law_good" = some (.ref g) ∧ ρ'.get "_law_way" = some (.int way)) ?_ ?_
  · repeat k_extra "m"
    refine Br.both ?_ ?_
    · repeat k_extra "m"
      exact ⟨rfl, rfl, 11, ⟨by (first | lia | omega), by (first | lia | omega)⟩, by k_extra "mget", by k_extra "mget", by k_extra "mget", by k_extra "mget", by k_extra "mget", by k_extra "mget", by k_extra "mget", by k_extra "mget", by k_extra "mget"⟩
    · repeat k_extra "m"
      exact ⟨rfl, rfl, w0, hw0, r1, r2, r3, r4, r5, r6, r7, r8, r9⟩
  clear r1 r2 r3 r4 r5 r6 r7 r8 r9 hw0 w0
  rintro ρa σa ⟨rfl, way, ⟨w0, w12⟩, r1, r2, r3, r4, r5, r6, r7, r8, r9⟩
  have hpl : p < hs.length := by (first | lia | omega)
  with_reducible refine Exs.cut (fun ρ' σ' => σ' = σa ∧ ρ'.get "_law_script" = some (.ref l0) ∧ ρ'.get "_law_base" = some (.int b) ∧ ρ'.get "_law_handlers" = some (.ref l) ∧ ρ'.get "_law_place" = some (.int (p : Int)) ∧ ρ'.get "_law_far" = some (.int (far : Int)) ∧ ρ'.get "_law_strange" = some (.bool st) ∧ ρ'.get "_law_good" = some (.ref g) ∧ ρ'.get "_law_way" = some (.int way) ∧ ρ'.get "_law_wrong_here" = some (.int 0)) ?_ ?_
  · repeat k_extra "m"
    exact ⟨rfl, rfl, by k_extra "mget", by k_extra "mget", by k_extra "mget", by k_extra "mget", by k_extra "mget", by k_extra "mget", by k_extra "mget", by k_extra "mget", by k_extra "mget"⟩
  clear r1 r2 r3 r4 r5 r6 r7 r8 r9
  rintro ρb σb ⟨rfl, r1, r2, r4, r5, r6, r7, r8, r9, rw⟩
  with_reducible refine Exs.cut (fun ρ' σ' => ∃ (wr : Nat) (bad : V) (tw : Hn × V), wr ≤ 2 ∧ σ' l = some (.list ((itms wr p bad tw 0 hs).map (·.1))) ∧ σ' g = some (.list (hs.map fun p => p.1.tv p.2)) ∧ Cast4 C (σ'.del l) c hs ∧ (wr = 1 → HV C (σ'.del l) bad false ∧ V.flat 3 bad) ∧ (wr = 2 → GoodH C (σ'.del l) tw ∧ V.flat 2 tw.2 ∧ 0 < p ∧ tw.1.name = nameN c (p - 1)) ∧ ρ'.get "_law_script" = some (.ref l0) ∧ ρ'.get "_law_base" = some (.int b) ∧ ρ'.get "_law_handlers" = some (.ref l) ∧ ρ'.get "_law_place" = some (.int (p : Int)) ∧ ρ'.get "_law_far" = some (.int (far : Int)) ∧ ρ'.get "_law_strange" = some (.bool st) ∧ ρ'.get "_law_good" = some (.ref g) ∧ ρ'.get "_law_wrong_here" = some (.int (wr : Int))) ?_ ?_
  · repeat k_extra "m"
    by_cases q8 : way < 8
    · refine Br.t (by simpa using q8) ?_
      repeat k_extra "m"
      refine tl 1 (by (first | lia | omega)) ?_
      repeat k_extra "m"
      refine ItemWP.list (y := hs[p].1.tv hs[p].2) (.inl hl) (by (first | lia | omega)) (by (first | lia | omega)) (by simp [hpl]) ?_
      repeat k_extra "m"
      refine c_wrong hK (by (first | lia | omega)) hh' w0 q8 (Int.fmod_nonneg_of_pos _ (by (first | lia | omega))) (by (first | lia | omega)) (Ca.2 p hpl).1 hl (Ca.2 p hpl).2.flat fun v σc g3 hv fv => ?_
      repeat k_extra "m"
      refine SetWP.list (g3 _ _ hl) (by (first | lia | omega)) (by rw [List.length_map]; (first | lia | omega)) (by rw [List.length_map]; (first | lia | omega)) ?_
      repeat k_extra "m"
      refine ⟨rfl, 1, v, hs[p], by (first | lia | omega), ?_, Store.miss hgl (g3 _ _ hg), by rw [del_upd]; exact Ca.grow g3.del, fun _ => ⟨by rw [del_upd]; exact hv, fv⟩, (fun z => by cases z), by k_extra "mget", by k_extra "mget", by k_extra "mget", by k_extra "mget", by k_extra "mget", by k_extra "mget", by k_extra "mget", by show _ = some (V.int 1); k_extra "mget"⟩
      rw [itms_at (nv := v) (fun _ => rfl) (fun z => by cases z) (.inl rfl) hs 0 (Nat.zero_le _)]
      exact Store.hit
    refine Br.f (by simpa using q8) ?_
    repeat k_extra "m"
    by_cases q11 : way < 11 ∧ 0 < p
    · refine Br.t (by simpa using q11.1) ?_
      repeat k_extra "m"
      refine Br.t (by simpa using q11.2) ?_
      repeat k_extra "m"
      refine ItemWP.list (y := hs[p].1.tv hs[p].2) (.inl hl) (by (first | lia | omega)) (by (first | lia | omega)) (by simp [hpl]) ?_
      repeat k_extra "m"
      have hp1 : p - 1 < hs.length := by (first | lia | omega)
      have ep : (p : Int) - 1 = ((p - 1 : Nat) : Int) := by (first | lia | omega)
      rw [ep]
      refine ItemWP.list (y := hs[p - 1].1.tv hs[p - 1].2) (.inl hl) (by (first | lia | omega)) (by (first | lia | omega)) (by simp [hp1]) ?_
      simp only [Hn.tv]
      repeat k_extra "m"
      intro y hy
      have ny : y ≠ l := ne_l hl Grow.rfl' hy
      have gy : Grow σb (σb.upd y (.list [Deed.v .hush])) := Grow.rfl'.fresh hy
      have fy : (σb.upd y (.list [Deed.v .hush])) y = some (.list [Deed.v .hush]) := Store.hit
      show Ags C A' _ _ _ _ (σb.upd y (.list [Deed.v .hush])) _ _
      generalize Store.upd σb y _ = σc at gy fy ⊢
      repeat k_extra "m"
      refine SetWP.list (gy _ _ hl) (by (first | lia | omega)) (by rw [List.length_map]; (first | lia | omega)) (by rw [List.length_map]; (first | lia | omega)) ?_
      repeat k_extra "m"
      have Hp := (Ca.2 p hpl).1
      have Hq := (Ca.2 (p - 1) hp1).1
      have H1 : HBy c (p - 1) ⟨hs[p - 1].1.name, hs[p].1.rank, hs[p].1.hears, hs[p].1.once, [.hush]⟩ := HBy.of Hq.name Hp.hears (by simp) fun d hd => by rw [List.mem_singleton.mp hd]; trivial
      have hnm : PyData.strOk hs[p - 1].1.name = true := by rw [Hq.name]; exact nameN_ok _ _ (by (first | lia | omega))
      have hx : Holds C (σc.del l) (.ref y) (([.hush] : List Deed).map Deed.v) := .inl ⟨y, rfl, del_ne ny fy⟩
      have hat := itms_at (wr := 2) (p := p) (bad := .none) (nv := Hn.tv ⟨hs[p - 1].1.name, hs[p].1.rank, hs[p].1.hears, hs[p].1.once, [.hush]⟩ (.ref y)) (tw := (⟨hs[p - 1].1.name, hs[p].1.rank, hs[p].1.hears, hs[p].1.once, [.hush]⟩, .ref y)) (fun z => by cases z) (fun _ => rfl) (.inr rfl) hs 0 (Nat.zero_le _)
      have hq1 := Hq.name
      refine ⟨rfl, 2, .none, (⟨hs[p - 1].1.name, hs[p].1.rank, hs[p].1.hears, hs[p].1.once, [.hush]⟩, .ref y), by (first | lia | omega), ?_, Store.miss hgl (gy _ _ hg), by rw [del_upd]; exact Ca.grow gy.del, (fun z => by cases z), fun _ => ⟨?_, trivial, q11.2, hq1⟩, by k_extra "mget", by k_extra "mget", by k_extra "mget", by k_extra "mget", by k_extra "mget", by k_extra "mget", by k_extra "mget", by show _ = some (V.int 2); k_extra "mget"⟩
      · rw [hat]
        exact Store.hit
      · rw [del_upd]
        exact ⟨H1.hv (by (first | lia | omega)) hx, hx, by simp, hnm⟩
    · have fin : σb l = some (.list ((itms 0 p .none hs[p] 0 hs).map (·.1))) := by rw [itms_past hs 0 (by (first | lia | omega))]; exact hl
      by_cases q : way < 11
      · refine Br.t (by simpa using q) ?_
        repeat k_extra "m"
        refine Br.f (by simp; (first | lia | omega)) ?_
        repeat k_extra "m"
        exact ⟨rfl, 0, .none, hs[p], by (first | lia | omega), fin, hg, Ca, (fun z => by cases z), (fun z => by cases z), by k_extra "mget", by k_extra "mget", by k_extra "mget", by k_extra "mget", by k_extra "mget", by k_extra "mget", by k_extra "mget", by show _ = some (V.int 0); k_extra "mget"⟩
      · refine Br.f (by simpa using q) ?_
        repeat k_extra "m"
        exact ⟨rfl, 0, .none, hs[p], by (first | lia | omega), fin, hg, Ca, (fun z => by cases z), (fun z => by cases z), by k_extra "mget", by k_extra "mget", by k_extra "mget", by k_extra "mget", by k_extra "mget", by k_extra "mget", by k_extra "mget", by show _ = some (V.int 0); k_extra "mget"⟩
  clear r1 r2 r4 r5 r6 r7 r8 r9 rw hl hg Ca σb
  rintro ρc σc ⟨wr, bad, tw, hw, hl, hg, Ca, hb, ht, r1, r2, r4, r5, r6, r7, r8, rw⟩
  with_reducible refine Exs.cut (fun ρ' σ' => Grow σc σ' ∧ ρ' = ρc) ?_ ?_
  · repeat k_extra "m"
    by_cases w1 : wr = 1
    · refine Br.t (by simp [w1]) ?_
      repeat k_extra "m"
      refine ItemWP.list (y := bad) (.inl hl) (by (first | lia | omega)) (by (first | lia | omega)) ?_ ?_
      · rw [itms_at (nv := bad) (fun _ => rfl) (by (first | lia | omega)) (.inl w1) hs 0 (Nat.zero_le _)]
        simp [hpl]
      repeat k_extra "m"
      refine c_hv hK (by (first | lia | omega)) hh' (by (first | lia | omega)) ((hb w1).1.grow Grow.ofDel) fun σd gd => ?_
      repeat k_extra "m"
      exact ⟨rfl, gd, rfl⟩
    · refine Br.f (by simp; (first | lia | omega)) ?_
      repeat k_extra "m"
      exact ⟨rfl, Grow.rfl', rfl⟩
  rintro ρd σd ⟨gd, rfl⟩
  with_reducible refine Exs.cut (fun ρ' σ' => Grow σd σ' ∧ ρ' = ρd) ?_ ?_
  · repeat k_extra "m"
    refine tl 2 (by (first | lia | omega)) ?_
    repeat k_extra "m"
    refine c_bad_deed hK (by (first | lia | omega)) hh' (Int.fmod_nonneg_of_pos _ (by (first | lia | omega))) (gd _ _ hl) fun v σe ge hv => ?_
    repeat k_extra "m"
    refine c_dv hK (by (first | lia | omega)) hh' (by (first | lia | omega)) (hv.grow Grow.ofDel) fun σf gf => ?_
    repeat k_extra "m"
    exact ⟨rfl, ge.trans gf, rfl⟩
  rintro ρe σe ⟨ge, rfl⟩
  have G := gd.trans ge
  replace hl := G _ _ hl
  replace hg := G _ _ hg
  replace Ca : Cast4 C σe c hs := (Ca.grow G.del).grow Grow.ofDel
  replace hb : wr = 1 → HV C σe bad false ∧ V.flat 3 bad := fun w => ⟨((hb w).1.grow G.del).grow Grow.ofDel, (hb w).2⟩
  replace ht : wr = 2 → GoodH C σe tw ∧ V.flat 2 tw.2 ∧ 0 < p ∧ tw.1.name = nameN c (p - 1) := fun w => ⟨((ht w).1.grow G.del).grow Grow.ofDel, (ht w).2⟩
  clear G gd ge
  with_reducible refine Exs.cut (fun ρ' σ' => σ' = σe ∧ ∃ sd : Bool, (wr = 0 → sd = st) ∧ ρ'.get "_law_base" = some (.int b) ∧ ρ'.get "_law_handlers" = some (.ref l) ∧ ρ'.get "_law_place" = some (.int (p : Int)) ∧ ρ'.get "_law_good" = some (.ref g) ∧ ρ'.get "_law_due_here" = some (.str (due4 wr p sd 0 hs))) ?_ ?_
  · have cd : ∀ {sd : Bool} {Q1 : V → Store → Prop} {X1 : XP}, Q1 (.str (due4 wr p sd 0 hs)) σe → CallWP C A' (.ref 381) [.ref g, .int (wr : Int), .int (p : Int), .bool sd] σe Q1 X1 := fun {sd _ _} hq => c_due hK hr1 hh' hg (by (first | lia | omega)) (fun q hq => by obtain ⟨j, hj, H, hx⟩ := Ca.mem hq; exact ⟨H.len, hx⟩) hw hq
    cases st with
    | false =>
      repeat k_extra "m"
      refine cd ?_
      repeat k_extra "m"
      exact ⟨rfl, rfl, false, fun _ => rfl, by k_extra "mget", by k_extra "mget", by k_extra "mget", by k_extra "mget", by k_extra "mget"⟩
    | true =>
      repeat k_extra "m"
      by_cases w0 : wr = 0
      · refine Br.f (by simp [w0]) ?_
        repeat k_extra "m"
        refine cd ?_
        repeat k_extra "m"
        refine ⟨rfl, rfl, _, ?_, by k_extra "mget", by k_extra "mget", by k_extra "mget", by k_extra "mget", by k_extra "mget"⟩
        intro _
        first | rfl | simp [w0]
      · refine Br.t (by simp; (first | lia | omega)) ?_
        repeat k_extra "m"
        refine cd ?_
        repeat k_extra "m"
        exact ⟨rfl, rfl, _, fun z => absurd z w0, by k_extra "mget", by k_extra "mget", by k_extra "mget", by k_extra "mget", by k_extra "mget"⟩
  clear r1 r2 r4 r5 r6 r7 r8 rw
  rintro ρf σf ⟨rfl, sd, hsd, r2, r4, r5, r8, rd⟩
  have lz : ((itms wr p bad tw 0 hs).map (·.1)).length ≤ 41 := by rw [List.length_map, itms_len]; (first | lia | omega)
  with_reducible refine Exs.cut (fun ρ' σ' => Grow σf σ' ∧ ∃ gv : Addr, σ' gv = some (.list ((itms wr p bad tw 0 hs).map (·.1))) ∧ ρ'.get "_law_base" = some (.int b) ∧ ρ'.get "_law_handlers" = some (.ref l) ∧ ρ'.get "_law_place" = some (.int (p : Int)) ∧ ρ'.get "_law_good" = some (.ref g) ∧ ρ'.get "_law_due_here" = some (.str (due4 wr p sd 0 hs)) ∧ ρ'.get "_law_given" = some (.ref gv)) ?_ ?_
  · repeat k_extra "m"
    intro gv hgv
    repeat k_extra "m"
    exact ⟨rfl, Grow.rfl'.fresh hgv, gv, Store.hit, by k_extra "mget", by k_extra "mget", by k_extra "mget", by k_extra "mget", by k_extra "mget", by k_extra "mget"⟩
  clear r2 r4 r5 r8 rd
  rintro ρg σg ⟨g1, gv, hgv, r2, r4, r5, r8, rd, rg⟩
  with_reducible refine Exs.cut (fun ρ' σ' => Grow σg σ' ∧ ρ' = ρg) ?_ ?_
  · repeat k_extra "m"
    refine c_kinds hK (by (first | lia | omega)) hh' (by (first | lia | omega)) (g1 _ _ hg) (by (first | lia | omega)) (Ca.grow g1) fun σh gh => ?_
    repeat k_extra "m"
    exact ⟨rfl, gh, rfl⟩
  rintro ρh σh ⟨g2, rfl⟩
  have G := g1.trans g2
  replace hl := G _ _ hl
  replace hgv := g2 _ _ hgv
  replace Ca := Ca.grow G
  replace hb : wr = 1 → HV C σh bad false ∧ V.flat 3 bad := fun w => ⟨(hb w).1.grow G, (hb w).2⟩
  replace ht : wr = 2 → GoodH C σh tw ∧ V.flat 2 tw.2 ∧ 0 < p ∧ tw.1.name = nameN c (p - 1) := fun w => ⟨(ht w).1.grow G, (ht w).2⟩
  clear G g1 g2 hg
  have fl := eq_itms (p := p) Ca (fun w => (hb w).2) fun w => (ht w).2.1
  by_cases hno : due4 wr p sd 0 hs = Str.ofString "none"
  · obtain ⟨rfl, c40, h30, nd, hod⟩ := none4 hw hp c41 Ca Dd hsd hno
    rw [itms_past hs 0 (by (first | lia | omega))] at hl
    repeat k_extra "m"
    refine Br.f (by rw [hno]; decide +kernel) ?_
    iterate 4 k_extra "m"
    refine Ev.callF ?kf ?_ (by kernel_rfl) (by kernel_rfl)
    case kf => rfl
    k_extra "mname"
    refine ⟨_, fun v hp r => by cases r; rfl, Kp.ref (by k_extra "mK"), ?_⟩
    repeat k_extra "m"
    exact f_let_by hK hS hlo ON OT OS FB (by (first | lia | omega)) hh' (by (first | lia | omega)) a4 hl Ca c40 h30 nd hod (by rw [Ca.names]; exact names_nb c7) hpl fun σi gi => rfl
  · repeat k_extra "m"
    refine Br.t (by simpa using hno) ?_
    iterate 5 k_extra "m"
    refine Ev.callF ?kf2 ?_ (by kernel_rfl) (by kernel_rfl)
    case kf2 => rfl
    k_extra "mname"
    refine ⟨_, fun v hp r => by cases r; rfl, Kp.ref (by k_extra "mK"), ?_⟩
    repeat k_extra "m"
    refine f_ref4 hK hS hlo ON OT OS FB (by (first | lia | omega)) hh' (by (first | lia | omega)) a4 hgv hw hp c41 c7 Ca Dd (fun w => (hb w).1) (fun w => ⟨(ht w).1, (ht w).2.2⟩) hsd hno fun σi gi => ?_
    repeat k_extra "m"
    refine CmpWP.eqSelf (gi _ _ hgv) (gi _ _ hl) (fun y hy => EqI.flat 3 y (fl y hy) (by (first | lia | omega))) (by (first | lia | omega)) ?_
    repeat k_extra "m"
    exact rfl

end Mine
theorem PySem.Challenge.cw_uf030038_04_holds : PySem.Challenge.rw_uf030038_04.Holds := by
  refine Mine.hd ?_
  intro w s₀ s₁ mg mb G Y fa o pm cd doc dV kV ho hd hcd hD hmg hg args vals as hpre hlay hrd hwl hlo
  have KX := km_in_of Y
  refine Ground.open G ?_
  intro T B D TE TW
  clear ho hd hcd hD
  wrow_args hpre hlay hrd hwl hlo
  rename IntsAre _ _ => hI
  rename s₁.heap.IsList _ _ => hL
  rename ¬ _ < _ => hn
  have hfa : fa = 405 := by
    have e := mg_of (n := Str.ofString "law") (v := .ref 405) KX T.g (by k_is)
    have hn : Mine.dL.name = Str.ofString "law" := by kernel_rfl
    rw [hn] at hmg
    rw [hmg] at e
    cases e; rfl
  subst hfa
  refine wpAny_mono (Mine.glueX KX T hg hL hI ?_) ?_ fun _ _ z => z.elim
  · intro C e1 e2 e3 e4 T2 e5
    subst e2
    have own : ∀ (x : String) (N' : Addr), specOf Mine.qL (Str.ofString x) = some ("ValueError.__new__", [.type "ValueError", .type "Exception", .type "BaseException", .type "object"]) → C.mg (Str.ofString x) = some (.ref N') → OwnCls (Str.ofString x) N' [.type "ValueError", .type "Exception", .type "BaseException", .type "object"] "ValueError.__new__" C.mg C.h₀ := by
      intro x N' hs e
      obtain ⟨N, OQ, _⟩ := T2.ownAt hs
      have hN : N = N' := by
        rw [OQ.bound] at e
        cases e; rfl
      subst hN
      exact OQ.own
    have hsys : ∃ o, C.h₀.get? sysModules = some o := by
      obtain ⟨mm, ⟨o, es, ep, e, _⟩, _⟩ := (T2.seer (by kernel_rfl)).mods
      exact ⟨o, e⟩
    exact Mine.c_law e3 (.inr hsys) e4 (own "NoHandler" 56 (by kernel_rfl) (mg_of C.KX C.hg (by rw [e3]; k_is))) (own "Twice" 68 (by kernel_rfl) (mg_of C.KX C.hg (by rw [e3]; k_is))) (own "Stranger" 80 (by kernel_rfl) (mg_of C.KX C.hg (by rw [e3]; k_is))) F.excBase_ValueError e5 (by (first | lia | omega))
  · rintro v s' ⟨rfl, k1, k2, k3⟩
    exact GoodW.toG ⟨.inl ⟨_, .bool true, [], rfl, fun _ => rfl, .bool true, postW_of (X := true == true) (by rfl) (w_eq_bool (w_res rfl) w_lit) rfl, fun _ => ⟨List.nodup_nil, fun a ha => by cases ha⟩⟩, k1, k2, k3⟩

